import Derived.Test.YtbldceikdajdlaaQDx4
import Derived.Test.YtbldceikdajdlaaQDx19
namespace Go.Proofs.Ytbldceikdajdlaa.QD
open Go.RowKit Go.Proofs.YtbldceikdajdlaaW.PrintWords Go.Proofs.YtbldceikdajdlaaW.PrintLast Go.Proofs.YtbldceikdajdlaaW.PrintMore
attribute [local go_sem] isSome_setCell max2_int min2_int max_two min_two max_three min_three max_four min_four
set_option linter.unusedVariables false
set_option linter.unusedSimpArgs false

/-! ### spec_l08Sorted: function 62 -/
mutual
def spec_l08Sorted.l0 : Nat → Int → List (S52) → List (S52) → Int → Option ((List (S52)))
 | 0, _, _, _, _ => none
 | k + 1, x0, x1, x5, x6 => if x6 < (x1.length : Int) then (spec_l08Sorted.l1 k x0 x1 x5 x6 (x5.length : Int)) else (some x5)
def spec_l08Sorted.l1 : Nat → Int → List (S52) → List (S52) → Int → Int → Option ((List (S52)))
 | 0, _, _, _, _, _ => none
 | k + 1, x0, x1, x5, x6, x7 => if x7 > 0 then (if 0 ≤ (wrap64 (x7 - 1)) then (if (wrap64 (x7 - 1)) < (x5.length : Int) then ((spec_l08Key.f k x0 ((rd_T52 x5 (wrap64 (x7 - 1))).f0.f0) ((rd_T52 x5 (wrap64 (x7 - 1))).f0.f1) ((rd_T52 x5 (wrap64 (x7 - 1))).f0.f2)).bind fun t161 => (if 0 ≤ x6 then (if x6 < (x1.length : Int) then ((spec_l08Key.f k x0 ((rd_T52 x1 x6).f0.f0) ((rd_T52 x1 x6).f0.f1) ((rd_T52 x1 x6).f0.f2)).bind fun t163 => (if t161 > t163 then (spec_l08Sorted.l1 k x0 x1 x5 x6 (wrap64 (x7 - 1))) else ((some (([(⟨(⟨(rd_T52 x1 x6).f0.f0, (rd_T52 x1 x6).f0.f1, (rd_T52 x1 x6).f0.f2⟩ : S25), (rd_T52 x1 x6).f1⟩ : S52)] : List (S52)) : List (S52))).bind fun y165 => (if 0 ≤ x7 then (if x7 ≤ (x5.length : Int) then ((some (x5.drop (x7 : Int).toNat : List (S52))).bind fun y168 => (if y165.length + y168.length < 4398046511104 then ((some (y165 ++ y168 : List (S52))).bind fun y172 => ((some (([] : List (S52)) : List (S52))).bind fun y175 => ((some (x5.take (x7 : Int).toNat : List (S52))).bind fun y178 => (if y175.length + y178.length < 4398046511104 then ((some (y175 ++ y178 : List (S52))).bind fun y182 => (if y182.length + y172.length < 4398046511104 then (spec_l08Sorted.l0 k x0 x1 (y182 ++ y172) (wrap64 (x6 + 1))) else (none))) else (none))))) else (none))) else (none)) else (none))))) else (none)) else (none))) else (none)) else (none)) else (if 0 ≤ x6 then (if x6 < (x1.length : Int) then ((some (([(⟨(⟨(rd_T52 x1 x6).f0.f0, (rd_T52 x1 x6).f0.f1, (rd_T52 x1 x6).f0.f2⟩ : S25), (rd_T52 x1 x6).f1⟩ : S52)] : List (S52)) : List (S52))).bind fun y189 => (if 0 ≤ x7 then (if x7 ≤ (x5.length : Int) then ((some (x5.drop (x7 : Int).toNat : List (S52))).bind fun y192 => (if y189.length + y192.length < 4398046511104 then ((some (y189 ++ y192 : List (S52))).bind fun y196 => ((some (([] : List (S52)) : List (S52))).bind fun y199 => ((some (x5.take (x7 : Int).toNat : List (S52))).bind fun y202 => (if y199.length + y202.length < 4398046511104 then ((some (y199 ++ y202 : List (S52))).bind fun y206 => (if y206.length + y196.length < 4398046511104 then (spec_l08Sorted.l0 k x0 x1 (y206 ++ y196) (wrap64 (x6 + 1))) else (none))) else (none))))) else (none))) else (none)) else (none))) else (none)) else (none))
end
def spec_l08Sorted.f (k : Nat) (a0 : Int) (l1 : List (S52)) : Option ((List (S52))) := spec_l08Sorted.l0 k a0 l1 (([] : List (S52))) 0
def spec_l08Sorted.T6 : Bool × List (List Nat × List Nat) := (true, [([], []), ([0], [0]), ([1], [1]), ([2], [2]), ([2], [2]), ([2], [2]), ([5, 2], [2, 5]), ([4, 6, 2], [2, 4, 6]), ([7, 2], [2, 7]), ([8, 2], [2, 8]), ([3, 9, 2, 2], [2, 3, 9]), ([2], [2]), ([2], [2]), ([2], [2]), ([12, 13, 2], [2, 12, 13]), ([14, 2], [2, 14]), ([15, 2], [2, 15]), ([11, 16, 10, 2], [2, 11, 16]), ([10, 17, 2], [2, 10, 17]), ([2, 18], [2, 18])])
def spec_l08Sorted.B6 : List Nat := [0, 1, 3, 7, 7, 7, 39, 119, 247, 503, 1023, 7, 7, 7, 12295, 28679, 61447, 131071, 262143, 524287]
theorem spec_l08Sorted.tab6 : rtab .any (opsOf Try.f62 6) = spec_l08Sorted.T6 := by kernel_rfl
theorem spec_l08Sorted.bits6 : waitsOk spec_l08Sorted.T6.2 spec_l08Sorted.B6 = true := by kernel_rfl
def spec_l08Sorted.T8 : Bool × List (List Nat × List Nat) := (true, [([], []), ([], []), ([0, 1], [0, 1]), ([2], [2]), ([3], [3]), ([], []), ([], []), ([5, 6], [5, 6]), ([4, 7], [4, 7]), ([8, 8, 0, 1, 2, 3, 4, 5, 6, 7, 8], [8])])
def spec_l08Sorted.B8 : List Nat := [0, 0, 3, 7, 15, 0, 0, 96, 255, 511]
theorem spec_l08Sorted.tab8 : rtab .any (opsOf Try.f62 8) = spec_l08Sorted.T8 := by kernel_rfl
theorem spec_l08Sorted.bits8 : waitsOk spec_l08Sorted.T8.2 spec_l08Sorted.B8 = true := by kernel_rfl
set_option maxHeartbeats 8000000 in
set_option maxRecDepth 100000 in
theorem spec_l08Sorted.calls (k : Nat) (a0 : Int) (A1 : Option Addr) (c1 : Nat) (l1 : List (S52)) (r : List (S52)) (w : World) (hr1 : Kd.C k52 w A1 l1.length l1) (hc1 : l1.length ≤ c1) (h : spec_l08Sorted.f k a0 l1 = some r) :
  Calls Try.prog 62 #[.int .i64 a0, .slice A1 l1.length c1] w fun e w' => ∃ v0_ : Value, e = .returned (v0_) ∧ Kd.R k52 52 w' w.heap.size (fun _ => True) v0_ r ∧ Below w.heap.size w w' := by
 have hu52 := Try.underlying52
 have hu25 := Try.underlying25
 have HR1 := Aside0.mk hr1
 have HC1 := Aside0.mk hc1
 clear hr1 hc1
 have HB := Aside0.mk (Below.refl w.heap.size w)
 have H : (spec_l08Sorted.l0 k a0 l1 (([] : List (S52))) 0) = some r := h
 clear h
 obtain ⟨y157, hy157⟩ : ∃ y_ : List (S52), y_ = (([] : List (S52))) := ⟨_, rfl⟩
 replace H : (spec_l08Sorted.l0 k a0 l1 y157 0) = some r := by first | (rw [hy157]; with_reducible exact H) | (have H2_ := (Option.bind_some _ _).symm.trans H; rw [hy157]; with_reducible exact H2_) | (have H2_ := (Option.bind_some _ _).symm.trans H; with_reducible exact H2_) | with_reducible exact H | (rw [hy157]; exact H) | exact H
 have Ny157 := Aside0.mk hy157
 clear hy157
 have H' := Aside0.mk H
 clear H
 go_enter Try.func62, Try.ntmps62
 go_wp2_with (first | ((with_reducible refine gate_dst (N := 9) rfl ?_); refine Kd.R_lit k52 _ 52 ?hg (N := 9) ?hd (xs := ([] : List (S52))) (inner := []) (ok := fun _ => True) (okp := fun _ => True) ?hr ?hp (fun _ hk => hk) trivial (Below.refl _ _) (Nat.le_refl _) (by simp) ?_; (case hd => rfl); (case hg => rfl); (case hr => first | (go_simp; done) | (go_simp; rfl)); (case hp => exact (Reps.none _ _)); intro v158 w3 ho4 hb hg_ hnew_; clear hg_ hnew_; (first | rw [← Ny157.out] at ho4 | (simp only [Int.reduceToNat] at ho4; rw [← Ny157.out] at ho4)); have HO159 := Aside0.mk (Kd.R_lower ho4 (below_size (bw_ HB).out)); replace HB := bt_ HB hb; clear hb ho4))
 go_loopg [5, 6] k (fun kq v5 v6 w' => ∃ (x5_1 : List (S52)) (x6_1 : Int), v6 = .int .i64 x6_1 ∧ Aside0 (spec_l08Sorted.l0 kq a0 l1 x5_1 x6_1 = some r) ∧ Aside0 (kq ≤ k) ∧ Aside0 (Kd.R k52 52 w' w.heap.size (fun _ => True) v5 x5_1) ∧ Aside0 (Below w.heap.size w w'))
 case atStart => exact ⟨(y157), (0), en_, H', ⟨Nat.le_refl _⟩, ⟨by (with_reducible repeat (first | apply Kd.R_alloc | apply Kd.R_drewN | apply Kd.R_drew)); exact HO159.out⟩, bw_ HB⟩
 case round =>
  clear H'
  try clear c1
  try clear p2
  obtain ⟨x5_1, x6_1, rfl, HA, HK1, HO_5, HB⟩ := hrel
  cases gk with
  | zero => exact absurd HA.out (by simp [spec_l08Sorted.l0])
  | succ k1 =>
   have H := HA.out
   clear HA
   simp only [spec_l08Sorted.l0] at H
   by_cases c5 : x6_1 < (l1.length : Int)
   ·rw [if_pos c5] at H
    have c5b0 : decide (x6_1 < (l1.length : Int)) = true := decide_eq_true c5
    clear c5
    have H' := Aside0.mk H
    clear H
    obtain ⟨Ao6, co6, eo6⟩ := Kd.R_slice HO_5.out
    subst eo6
    go_wp2
    go_loopg [7] k1 (fun kq v7 w' => ∃ (x7_2 : Int), v7 = .int .i64 x7_2 ∧ Aside0 (spec_l08Sorted.l1 kq a0 l1 x5_1 x6_1 x7_2 = some r) ∧ Aside0 (kq ≤ k1) ∧ Aside0 (Kd.R k52 52 w' w.heap.size (fun _ => True) (.slice Ao6 x5_1.length co6) x5_1) ∧ Aside0 (Below w.heap.size w w'))
    case atStart => exact ⟨((x5_1.length : Int)), en_, H', ⟨Nat.le_refl _⟩, ⟨by (with_reducible repeat (first | apply Kd.R_alloc | apply Kd.R_drewN | apply Kd.R_drew)); exact HO_5.out⟩, bw_ HB⟩
    case round =>
     clear H'
     try clear c1
     try clear p2
     try clear c5
     try clear c5b0
     try clear c6
     try clear p2
     obtain ⟨x7_2, rfl, HA, HK2, HO_5, HB⟩ := hrel
     cases gk with
     | zero => exact absurd HA.out (by simp [spec_l08Sorted.l1])
     | succ k2 =>
      have H := HA.out
      clear HA
      simp only [spec_l08Sorted.l1] at H
      by_cases c7 : x7_2 > 0
      ·rw [if_pos c7] at H
       have c7b0 : decide (0 < x7_2) = true := decide_eq_true c7
       clear c7
       obtain ⟨ji8, hji8⟩ : ∃ j_ : Int, (wrap64 (x7_2 - 1)) = j_ := ⟨_, rfl⟩
       replace H : (if 0 ≤ (ji8) then (if (ji8) < (x5_1.length : Int) then ((spec_l08Key.f k2 a0 ((rd_T52 x5_1 (ji8)).f0.f0) ((rd_T52 x5_1 (ji8)).f0.f1) ((rd_T52 x5_1 (ji8)).f0.f2)).bind fun t161 => (if 0 ≤ x6_1 then (if x6_1 < (l1.length : Int) then ((spec_l08Key.f k2 a0 ((rd_T52 l1 x6_1).f0.f0) ((rd_T52 l1 x6_1).f0.f1) ((rd_T52 l1 x6_1).f0.f2)).bind fun t163 => (if t161 > t163 then (spec_l08Sorted.l1 k2 a0 l1 x5_1 x6_1 ji8) else ((some (([(⟨(⟨(rd_T52 l1 x6_1).f0.f0, (rd_T52 l1 x6_1).f0.f1, (rd_T52 l1 x6_1).f0.f2⟩ : S25), (rd_T52 l1 x6_1).f1⟩ : S52)] : List (S52)) : List (S52))).bind fun y165 => (if 0 ≤ x7_2 then (if x7_2 ≤ (x5_1.length : Int) then ((some (x5_1.drop (x7_2 : Int).toNat : List (S52))).bind fun y168 => (if y165.length + y168.length < 4398046511104 then ((some (y165 ++ y168 : List (S52))).bind fun y172 => ((some (([] : List (S52)) : List (S52))).bind fun y175 => ((some (x5_1.take (x7_2 : Int).toNat : List (S52))).bind fun y178 => (if y175.length + y178.length < 4398046511104 then ((some (y175 ++ y178 : List (S52))).bind fun y182 => (if y182.length + y172.length < 4398046511104 then (spec_l08Sorted.l0 k2 a0 l1 (y182 ++ y172) (wrap64 (x6_1 + 1))) else (none))) else (none))))) else (none))) else (none)) else (none))))) else (none)) else (none))) else (none)) else (none)) = some r := by first | (rw [hji8] at H; exact H) | (simp only [hji8] at H ⊢; exact H)
       have hji8w : (IntKind.i64.wrap (x7_2 - 1)) = ji8 := (i64_w _).trans hji8
       by_cases c9 : 0 ≤ (ji8)
       ·rw [if_pos c9] at H
        have c9b0 : decide (0 ≤ (ji8)) = true := decide_eq_true c9
        clear c9
        by_cases c10 : (ji8) < (x5_1.length : Int)
        ·rw [if_pos c10] at H
         have c10b0 : decide ((ji8) < (x5_1.length : Int)) = true := decide_eq_true c10
         clear c10
         replace H := ob_ H
         obtain ⟨t161, A110, H⟩ := H
         have A11 := Aside0.mk A110
         clear A110
         by_cases c12 : 0 ≤ x6_1
         ·rw [if_pos c12] at H
          have c12b0 : decide (0 ≤ x6_1) = true := decide_eq_true c12
          clear c12
          by_cases c13 : x6_1 < (l1.length : Int)
          ·rw [if_pos c13] at H
           have c13b0 : decide (x6_1 < (l1.length : Int)) = true := decide_eq_true c13
           clear c13
           replace H := ob_ H
           obtain ⟨t163, A140, H⟩ := H
           have A14 := Aside0.mk A140
           clear A140
           by_cases c15 : t161 > t163
           ·rw [if_pos c15] at H
            have c15b0 : decide (t163 < t161) = true := decide_eq_true c15
            clear c15
            have H' := Aside0.mk H
            clear H
            try go_wp2
            replace HO_5 := Aside0.mk (Kd.R_drew HO_5.out)
            replace HB := Aside0.mk (below_drew1 HB.out)
            have p160 : 0 ≤ ((ji8) : Int) := od_
            have q160 : (ji8) < (x5_1.length : Int) := od_
            obtain ⟨ad160, e160, hx160_0, hx160_1, hx160_2, hx160_3⟩ := at_T52 (Kd.R_reads' HO_5.out).2.2 (ji8) p160 q160
            cases e160
            replace p160 := eq_true p160
            replace q160 := eq_true q160
            have p162 : 0 ≤ (x6_1 : Int) := od_
            have q162 : x6_1 < (l1.length : Int) := od_
            obtain ⟨ad162, e162, hx162_0, hx162_1, hx162_2, hx162_3⟩ := at_T52 HR1.out x6_1 p162 q162
            have hw162_3 := hx162_3
            have hw162_2 := hx162_2
            have hw162_1 := hx162_1
            have hw162_0 := hx162_0
            cases e162
            replace hx162_0 := clTr HB.out hx162_0
            replace hx162_1 := clTr HB.out hx162_1
            replace hx162_2 := clTr HB.out hx162_2
            replace hx162_3 := clTr HB.out hx162_3
            replace p162 := eq_true p162
            replace q162 := eq_true q162
            refine start_ (n := 20) (S := fun w' => w'.cell? (ad160.add (((ji8)).toNat * 4)) = some (.int .i64 ((rd_T52 x5_1 (ji8)).f0.f0)) ∧ w'.cell? ⟨(ad160.add (((ji8)).toNat * 4)).block, (ad160.add (((ji8)).toNat * 4)).off + 1, none⟩ = some (.int .i64 ((rd_T52 x5_1 (ji8)).f0.f1)) ∧ w'.cell? ⟨(ad160.add (((ji8)).toNat * 4)).block, (ad160.add (((ji8)).toNat * 4)).off + 2, none⟩ = some (.int .i64 ((rd_T52 x5_1 (ji8)).f0.f2)) ∧ w'.cell? ⟨(ad160.add (((ji8)).toNat * 4)).block, (ad160.add (((ji8)).toNat * 4)).off + 3, none⟩ = some (.int .i64 ((rd_T52 x5_1 (ji8)).f1)) ∧ w'.cell? (ad162.add ((x6_1).toNat * 4)) = some (.int .i64 ((rd_T52 l1 x6_1).f0.f0)) ∧ w'.cell? ⟨(ad162.add ((x6_1).toNat * 4)).block, (ad162.add ((x6_1).toNat * 4)).off + 1, none⟩ = some (.int .i64 ((rd_T52 l1 x6_1).f0.f1)) ∧ w'.cell? ⟨(ad162.add ((x6_1).toNat * 4)).block, (ad162.add ((x6_1).toNat * 4)).off + 2, none⟩ = some (.int .i64 ((rd_T52 l1 x6_1).f0.f2)) ∧ w'.cell? ⟨(ad162.add ((x6_1).toNat * 4)).block, (ad162.add ((x6_1).toNat * 4)).off + 3, none⟩ = some (.int .i64 ((rd_T52 l1 x6_1).f1))) (ds := []) (bv_ 20 0) (by kernel_rfl) rfl rfl ⟨hx160_0, hx160_1, hx160_2, hx160_3, (clTr HB.out hw162_0 :), (clTr HB.out hw162_1 :), (clTr HB.out hw162_2 :), (clTr HB.out hw162_3 :)⟩ (fun hHeld => ?_); refine with_tabW spec_l08Sorted.tab6 spec_l08Sorted.bits6 (fun HT_ HW_ => ?_)
            generalize wr.drew = w16 at HO_5 HB hx160_0 hx160_1 hx160_2 hx160_3 hx162_0 hx162_1 hx162_2 hx162_3 hHeld ⊢
            refine pu_ HT_ 0 (some 18) (bv_ 20 1) ?_
            refine pu_ HT_ 1 (some 19) (bv_ 20 3) ?_
            refine pu_ HT_ 2 (some 20) (bv_ 20 7) ?_
            refine pu_ HT_ 3 (some 21) (bv_ 20 15) ?_
            refine pu_ HT_ 4 (some 22) (bv_ 20 31) ?_
            refine pu_ HT_ 5 (some 23) (bv_ 20 63) ?_
            refine pu_ HT_ 6 (some 24) (bv_ 20 127) ?_
            refine pu_ HT_ 7 (some 25) (bv_ 20 255) ?_
            refine pu_ HT_ 8 (some 26) (bv_ 20 511) ?_
            refine pu_ HT_ 11 (some 29) (bv_ 20 2559) ?_
            refine pu_ HT_ 12 (some 30) (bv_ 20 6655) ?_
            refine pu_ HT_ 13 (some 31) (bv_ 20 14847) ?_
            refine pu_ HT_ 14 (some 32) (bv_ 20 31231) ?_
            refine pu_ HT_ 15 (some 33) (bv_ 20 63999) ?_
            refine ta_ HT_ HW_ 9 (some 27) (bv_ 20 64511) hHeld ?_ (hy := by rintro w' ⟨s0, s1, s2, s3, s4, s5, s6, s7⟩; go_simp; with_reducible rfl)
            refine ta_ HT_ HW_ 16 (some 34) (bv_ 20 130047) hHeld ?_ (hy := by rintro w' ⟨s0, s1, s2, s3, s4, s5, s6, s7⟩; go_simp; with_reducible rfl)
            refine one_ (i := 10) (N := some 28) (bv_ 20 131071) rfl rfl (one_of HT_.out (by kernel_rfl)) (by decide) (fun K hK => ?_)
            refine goes_ Try.func77 (by kernel_rfl) rfl #[.int .i64 a0, .agg #[.int .i64 ((rd_T52 x5_1 (ji8)).f0.f0), .int .i64 ((rd_T52 x5_1 (ji8)).f0.f1), .int .i64 ((rd_T52 x5_1 (ji8)).f0.f2)]] (by rfl) rfl rfl (by (try simp only [List.map_toArray, List.map_cons, List.map_nil]); first | done | (simp only [hji8]; rfl) | rfl | (simp only [List.length_drop, List.length_take]; rfl)) ?_
            with_reducible refine (spec_l08Key.calls k2 a0 ((rd_T52 x5_1 (ji8)).f0.f0) ((rd_T52 x5_1 (ji8)).f0.f1) ((rd_T52 x5_1 (ji8)).f0.f2) t161 _ A11.out).mono ?_
            rintro e w17 ⟨rfl, hb⟩
            have HS0_ := (hb.cell (World.block_lt_of_cell? _ _ (hHeld.1))).trans (hHeld.1)
            have HS1_ := (hb.cell (World.block_lt_of_cell? _ _ (hHeld.2.1))).trans (hHeld.2.1)
            have HS2_ := (hb.cell (World.block_lt_of_cell? _ _ (hHeld.2.2.1))).trans (hHeld.2.2.1)
            have HS3_ := (hb.cell (World.block_lt_of_cell? _ _ (hHeld.2.2.2.1))).trans (hHeld.2.2.2.1)
            refine ⟨_, rfl, ?_⟩
            replace HO_5 := Aside0.mk (Kd.R_below (ra_ HO_5.out) hb)
            replace HB := bt_ HB hb
            (try clear hb)
            (try clear hb2)
            (try clear hk)
            (try clear hi)
            refine hK.out _ _ ⟨HS0_, HS1_, HS2_, HS3_, (clTr HB.out hw162_0 :), (clTr HB.out hw162_1 :), (clTr HB.out hw162_2 :), (clTr HB.out hw162_3 :)⟩ (fun hHeld => ?_)
            clear hK K
            refine norm_ (a' := ?_) ?_ ?_
            rotate_left
            ·show Act.put _ (some 28) _ = _
             simp only [Act.put, lstS, lstZ, lstC, i64_w, i32_w]
             rfl
            refine one_ (i := 17) (N := some 35) (bv_ 20 262143) rfl rfl (one_of HT_.out (by kernel_rfl)) (by decide) (fun K hK => ?_)
            refine goes_ Try.func77 (by kernel_rfl) rfl #[.int .i64 a0, .agg #[.int .i64 ((rd_T52 l1 x6_1).f0.f0), .int .i64 ((rd_T52 l1 x6_1).f0.f1), .int .i64 ((rd_T52 l1 x6_1).f0.f2)]] (by rfl) rfl rfl (by (try simp only [List.map_toArray, List.map_cons, List.map_nil]); first | done | rfl | (simp only [List.length_drop, List.length_take]; rfl)) ?_
            with_reducible refine (spec_l08Key.calls k2 a0 ((rd_T52 l1 x6_1).f0.f0) ((rd_T52 l1 x6_1).f0.f1) ((rd_T52 l1 x6_1).f0.f2) t163 _ A14.out).mono ?_
            rintro e w18 ⟨rfl, hb⟩
            have HS0_ := (hb.cell (World.block_lt_of_cell? _ _ (hHeld.1))).trans (hHeld.1)
            have HS1_ := (hb.cell (World.block_lt_of_cell? _ _ (hHeld.2.1))).trans (hHeld.2.1)
            have HS2_ := (hb.cell (World.block_lt_of_cell? _ _ (hHeld.2.2.1))).trans (hHeld.2.2.1)
            have HS3_ := (hb.cell (World.block_lt_of_cell? _ _ (hHeld.2.2.2.1))).trans (hHeld.2.2.2.1)
            refine ⟨_, rfl, ?_⟩
            replace HO_5 := Aside0.mk (Kd.R_below (ra_ HO_5.out) hb)
            replace HB := bt_ HB hb
            (try clear hb)
            (try clear hb2)
            (try clear hk)
            (try clear hi)
            refine hK.out _ _ ⟨HS0_, HS1_, HS2_, HS3_, (clTr HB.out hw162_0 :), (clTr HB.out hw162_1 :), (clTr HB.out hw162_2 :), (clTr HB.out hw162_3 :)⟩ (fun hHeld => ?_)
            clear hK K
            refine norm_ (a' := ?_) ?_ ?_
            rotate_left
            ·show Act.put _ (some 35) _ = _
             simp only [Act.put, lstS, lstZ, lstC, i64_w, i32_w]
             rfl
            refine pu_ HT_ 18 (some 36) (bv_ 20 524287) ?_
            refine pu_ HT_ 19 (some 37) (bv_ 20 1048575) ?_
            refine done_ (done_of HT_.out (by kernel_rfl)) ?_
            try go_wp2
            go_roundg k2
            case measure => have := HK1.out; have := HK2.out; omega
            case rel => exact ⟨(ji8), (by first | rfl | (simp; done) | (simp only [← hji8] <;> (first | rfl | simp)) | (simp [*]; done)), H', ⟨by have := HK1.out; have := HK2.out; omega⟩, ⟨by (with_reducible repeat (first | apply Kd.R_alloc | apply Kd.R_drewN | apply Kd.R_drew)); exact HO_5.out⟩, bw_ HB⟩
           ·rw [if_neg c15] at H
            have c15b0 : decide (t163 < t161) = false := decide_eq_false c15
            clear c15
            obtain ⟨y165, hy165⟩ : ∃ y_ : List (S52), y_ = (([(⟨(⟨(rd_T52 l1 x6_1).f0.f0, (rd_T52 l1 x6_1).f0.f1, (rd_T52 l1 x6_1).f0.f2⟩ : S25), (rd_T52 l1 x6_1).f1⟩ : S52)] : List (S52))) := ⟨_, rfl⟩
            replace H : (if 0 ≤ x7_2 then (if x7_2 ≤ (x5_1.length : Int) then ((some (x5_1.drop (x7_2 : Int).toNat : List (S52))).bind fun y168 => (if y165.length + y168.length < 4398046511104 then ((some (y165 ++ y168 : List (S52))).bind fun y172 => ((some (([] : List (S52)) : List (S52))).bind fun y175 => ((some (x5_1.take (x7_2 : Int).toNat : List (S52))).bind fun y178 => (if y175.length + y178.length < 4398046511104 then ((some (y175 ++ y178 : List (S52))).bind fun y182 => (if y182.length + y172.length < 4398046511104 then (spec_l08Sorted.l0 k2 a0 l1 (y182 ++ y172) (wrap64 (x6_1 + 1))) else (none))) else (none))))) else (none))) else (none)) else (none)) = some r := by first | (rw [hy165]; with_reducible exact H) | (have H2_ := (Option.bind_some _ _).symm.trans H; rw [hy165]; with_reducible exact H2_) | (have H2_ := (Option.bind_some _ _).symm.trans H; with_reducible exact H2_) | with_reducible exact H | (rw [hy165]; exact H) | exact H
            have Ny165 := Aside0.mk hy165
            clear hy165
            by_cases c19 : 0 ≤ x7_2
            ·rw [if_pos c19] at H
             have c19b0 := eq_true c19
             have c19b1 : decide (0 ≤ x7_2) = true := decide_eq_true c19
             clear c19
             by_cases c20 : x7_2 ≤ (x5_1.length : Int)
             ·rw [if_pos c20] at H
              have c20b0 := eq_true c20
              have c20b1 : decide (x7_2 ≤ (x5_1.length : Int)) = true := decide_eq_true c20
              clear c20
              obtain ⟨y168, hy168⟩ : ∃ y_ : List (S52), y_ = (x5_1.drop (x7_2 : Int).toNat) := ⟨_, rfl⟩
              replace H : (if y165.length + y168.length < 4398046511104 then ((some (y165 ++ y168 : List (S52))).bind fun y172 => ((some (([] : List (S52)) : List (S52))).bind fun y175 => ((some (x5_1.take (x7_2 : Int).toNat : List (S52))).bind fun y178 => (if y175.length + y178.length < 4398046511104 then ((some (y175 ++ y178 : List (S52))).bind fun y182 => (if y182.length + y172.length < 4398046511104 then (spec_l08Sorted.l0 k2 a0 l1 (y182 ++ y172) (wrap64 (x6_1 + 1))) else (none))) else (none))))) else (none)) = some r := by first | (rw [hy168]; with_reducible exact H) | (have H2_ := (Option.bind_some _ _).symm.trans H; rw [hy168]; with_reducible exact H2_) | (have H2_ := (Option.bind_some _ _).symm.trans H; with_reducible exact H2_) | with_reducible exact H | (rw [hy168]; exact H) | exact H
              have Ny168 := Aside0.mk hy168
              clear hy168
              by_cases c21 : y165.length + y168.length < 4398046511104
              ·rw [if_pos c21] at H
               have LMc21 := Aside0.mk c21
               clear c21
               obtain ⟨y172, hy172⟩ : ∃ y_ : List (S52), y_ = (y165 ++ y168) := ⟨_, rfl⟩
               replace H : ((some (([] : List (S52)) : List (S52))).bind fun y175 => ((some (x5_1.take (x7_2 : Int).toNat : List (S52))).bind fun y178 => (if y175.length + y178.length < 4398046511104 then ((some (y175 ++ y178 : List (S52))).bind fun y182 => (if y182.length + y172.length < 4398046511104 then (spec_l08Sorted.l0 k2 a0 l1 (y182 ++ y172) (wrap64 (x6_1 + 1))) else (none))) else (none)))) = some r := by first | (rw [hy172]; with_reducible exact H) | (have H2_ := (Option.bind_some _ _).symm.trans H; rw [hy172]; with_reducible exact H2_) | (have H2_ := (Option.bind_some _ _).symm.trans H; with_reducible exact H2_) | with_reducible exact H | (rw [hy172]; exact H) | exact H
               have Ny172 := Aside0.mk hy172
               clear hy172
               obtain ⟨y175, hy175⟩ : ∃ y_ : List (S52), y_ = (([] : List (S52))) := ⟨_, rfl⟩
               replace H : ((some (x5_1.take (x7_2 : Int).toNat : List (S52))).bind fun y178 => (if y175.length + y178.length < 4398046511104 then ((some (y175 ++ y178 : List (S52))).bind fun y182 => (if y182.length + y172.length < 4398046511104 then (spec_l08Sorted.l0 k2 a0 l1 (y182 ++ y172) (wrap64 (x6_1 + 1))) else (none))) else (none))) = some r := by first | (rw [hy175]; with_reducible exact H) | (have H2_ := (Option.bind_some _ _).symm.trans H; rw [hy175]; with_reducible exact H2_) | (have H2_ := (Option.bind_some _ _).symm.trans H; with_reducible exact H2_) | with_reducible exact H | (rw [hy175]; exact H) | exact H
               have Ny175 := Aside0.mk hy175
               clear hy175
               have c22b0 := eq_true (od_ : 0 ≤ x7_2)
               have c23b0 := eq_true (od_ : x7_2 ≤ (x5_1.length : Int))
               obtain ⟨y178, hy178⟩ : ∃ y_ : List (S52), y_ = (x5_1.take (x7_2 : Int).toNat) := ⟨_, rfl⟩
               replace H : (if y175.length + y178.length < 4398046511104 then ((some (y175 ++ y178 : List (S52))).bind fun y182 => (if y182.length + y172.length < 4398046511104 then (spec_l08Sorted.l0 k2 a0 l1 (y182 ++ y172) (wrap64 (x6_1 + 1))) else (none))) else (none)) = some r := by first | (rw [hy178]; with_reducible exact H) | (have H2_ := (Option.bind_some _ _).symm.trans H; rw [hy178]; with_reducible exact H2_) | (have H2_ := (Option.bind_some _ _).symm.trans H; with_reducible exact H2_) | with_reducible exact H | (rw [hy178]; exact H) | exact H
               have Ny178 := Aside0.mk hy178
               clear hy178
               by_cases c24 : y175.length + y178.length < 4398046511104
               ·rw [if_pos c24] at H
                have LMc24 := Aside0.mk c24
                clear c24
                obtain ⟨y182, hy182⟩ : ∃ y_ : List (S52), y_ = (y175 ++ y178) := ⟨_, rfl⟩
                replace H : (if y182.length + y172.length < 4398046511104 then (spec_l08Sorted.l0 k2 a0 l1 (y182 ++ y172) (wrap64 (x6_1 + 1))) else (none)) = some r := by first | (rw [hy182]; with_reducible exact H) | (have H2_ := (Option.bind_some _ _).symm.trans H; rw [hy182]; with_reducible exact H2_) | (have H2_ := (Option.bind_some _ _).symm.trans H; with_reducible exact H2_) | with_reducible exact H | (rw [hy182]; exact H) | exact H
                have Ny182 := Aside0.mk hy182
                clear hy182
                by_cases c25 : y182.length + y172.length < 4398046511104
                ·rw [if_pos c25] at H
                 have LMc25 := Aside0.mk c25
                 clear c25
                 obtain ⟨y185, hy185⟩ : ∃ y_ : List (S52), y_ = (y182 ++ y172) := ⟨_, rfl⟩
                 replace H : (spec_l08Sorted.l0 k2 a0 l1 y185 (wrap64 (x6_1 + 1))) = some r := by first | (rw [hy185]; with_reducible exact H) | (have H2_ := (Option.bind_some _ _).symm.trans H; rw [hy185]; with_reducible exact H2_) | (have H2_ := (Option.bind_some _ _).symm.trans H; with_reducible exact H2_) | with_reducible exact H | (rw [hy185]; exact H) | exact H
                 have Ny185 := Aside0.mk hy185
                 clear hy185
                 have H' := Aside0.mk H
                 clear H
                 try go_wp2
                 replace HO_5 := Aside0.mk (Kd.R_drew HO_5.out)
                 replace HB := Aside0.mk (below_drew1 HB.out)
                 have p160 : 0 ≤ ((ji8) : Int) := od_
                 have q160 : (ji8) < (x5_1.length : Int) := od_
                 obtain ⟨ad160, e160, hx160_0, hx160_1, hx160_2, hx160_3⟩ := at_T52 (Kd.R_reads' HO_5.out).2.2 (ji8) p160 q160
                 cases e160
                 replace p160 := eq_true p160
                 replace q160 := eq_true q160
                 have p162 : 0 ≤ (x6_1 : Int) := od_
                 have q162 : x6_1 < (l1.length : Int) := od_
                 obtain ⟨ad162, e162, hx162_0, hx162_1, hx162_2, hx162_3⟩ := at_T52 HR1.out x6_1 p162 q162
                 have hw162_3 := hx162_3
                 have hw162_2 := hx162_2
                 have hw162_1 := hx162_1
                 have hw162_0 := hx162_0
                 cases e162
                 replace hx162_0 := clTr HB.out hx162_0
                 replace hx162_1 := clTr HB.out hx162_1
                 replace hx162_2 := clTr HB.out hx162_2
                 replace hx162_3 := clTr HB.out hx162_3
                 replace p162 := eq_true p162
                 replace q162 := eq_true q162
                 refine start_ (n := 20) (S := fun w' => w'.cell? (ad160.add (((ji8)).toNat * 4)) = some (.int .i64 ((rd_T52 x5_1 (ji8)).f0.f0)) ∧ w'.cell? ⟨(ad160.add (((ji8)).toNat * 4)).block, (ad160.add (((ji8)).toNat * 4)).off + 1, none⟩ = some (.int .i64 ((rd_T52 x5_1 (ji8)).f0.f1)) ∧ w'.cell? ⟨(ad160.add (((ji8)).toNat * 4)).block, (ad160.add (((ji8)).toNat * 4)).off + 2, none⟩ = some (.int .i64 ((rd_T52 x5_1 (ji8)).f0.f2)) ∧ w'.cell? ⟨(ad160.add (((ji8)).toNat * 4)).block, (ad160.add (((ji8)).toNat * 4)).off + 3, none⟩ = some (.int .i64 ((rd_T52 x5_1 (ji8)).f1)) ∧ w'.cell? (ad162.add ((x6_1).toNat * 4)) = some (.int .i64 ((rd_T52 l1 x6_1).f0.f0)) ∧ w'.cell? ⟨(ad162.add ((x6_1).toNat * 4)).block, (ad162.add ((x6_1).toNat * 4)).off + 1, none⟩ = some (.int .i64 ((rd_T52 l1 x6_1).f0.f1)) ∧ w'.cell? ⟨(ad162.add ((x6_1).toNat * 4)).block, (ad162.add ((x6_1).toNat * 4)).off + 2, none⟩ = some (.int .i64 ((rd_T52 l1 x6_1).f0.f2)) ∧ w'.cell? ⟨(ad162.add ((x6_1).toNat * 4)).block, (ad162.add ((x6_1).toNat * 4)).off + 3, none⟩ = some (.int .i64 ((rd_T52 l1 x6_1).f1))) (ds := []) (bv_ 20 0) (by kernel_rfl) rfl rfl ⟨hx160_0, hx160_1, hx160_2, hx160_3, (clTr HB.out hw162_0 :), (clTr HB.out hw162_1 :), (clTr HB.out hw162_2 :), (clTr HB.out hw162_3 :)⟩ (fun hHeld => ?_); refine with_tabW spec_l08Sorted.tab6 spec_l08Sorted.bits6 (fun HT_ HW_ => ?_)
                 generalize wr.drew = w26 at HO_5 HB hx160_0 hx160_1 hx160_2 hx160_3 hx162_0 hx162_1 hx162_2 hx162_3 hHeld ⊢
                 refine pu_ HT_ 0 (some 18) (bv_ 20 1) ?_
                 refine pu_ HT_ 1 (some 19) (bv_ 20 3) ?_
                 refine pu_ HT_ 2 (some 20) (bv_ 20 7) ?_
                 refine pu_ HT_ 3 (some 21) (bv_ 20 15) ?_
                 refine pu_ HT_ 4 (some 22) (bv_ 20 31) ?_
                 refine pu_ HT_ 5 (some 23) (bv_ 20 63) ?_
                 refine pu_ HT_ 6 (some 24) (bv_ 20 127) ?_
                 refine pu_ HT_ 7 (some 25) (bv_ 20 255) ?_
                 refine pu_ HT_ 8 (some 26) (bv_ 20 511) ?_
                 refine pu_ HT_ 11 (some 29) (bv_ 20 2559) ?_
                 refine pu_ HT_ 12 (some 30) (bv_ 20 6655) ?_
                 refine pu_ HT_ 13 (some 31) (bv_ 20 14847) ?_
                 refine pu_ HT_ 14 (some 32) (bv_ 20 31231) ?_
                 refine pu_ HT_ 15 (some 33) (bv_ 20 63999) ?_
                 refine ta_ HT_ HW_ 9 (some 27) (bv_ 20 64511) hHeld ?_ (hy := by rintro w' ⟨s0, s1, s2, s3, s4, s5, s6, s7⟩; go_simp; with_reducible rfl)
                 refine ta_ HT_ HW_ 16 (some 34) (bv_ 20 130047) hHeld ?_ (hy := by rintro w' ⟨s0, s1, s2, s3, s4, s5, s6, s7⟩; go_simp; with_reducible rfl)
                 refine one_ (i := 10) (N := some 28) (bv_ 20 131071) rfl rfl (one_of HT_.out (by kernel_rfl)) (by decide) (fun K hK => ?_)
                 refine goes_ Try.func77 (by kernel_rfl) rfl #[.int .i64 a0, .agg #[.int .i64 ((rd_T52 x5_1 (ji8)).f0.f0), .int .i64 ((rd_T52 x5_1 (ji8)).f0.f1), .int .i64 ((rd_T52 x5_1 (ji8)).f0.f2)]] (by rfl) rfl rfl (by (try simp only [List.map_toArray, List.map_cons, List.map_nil]); first | done | (simp only [hji8]; rfl) | rfl | (simp only [List.length_drop, List.length_take]; rfl)) ?_
                 with_reducible refine (spec_l08Key.calls k2 a0 ((rd_T52 x5_1 (ji8)).f0.f0) ((rd_T52 x5_1 (ji8)).f0.f1) ((rd_T52 x5_1 (ji8)).f0.f2) t161 _ A11.out).mono ?_
                 rintro e w27 ⟨rfl, hb⟩
                 have HS0_ := (hb.cell (World.block_lt_of_cell? _ _ (hHeld.1))).trans (hHeld.1)
                 have HS1_ := (hb.cell (World.block_lt_of_cell? _ _ (hHeld.2.1))).trans (hHeld.2.1)
                 have HS2_ := (hb.cell (World.block_lt_of_cell? _ _ (hHeld.2.2.1))).trans (hHeld.2.2.1)
                 have HS3_ := (hb.cell (World.block_lt_of_cell? _ _ (hHeld.2.2.2.1))).trans (hHeld.2.2.2.1)
                 refine ⟨_, rfl, ?_⟩
                 replace HO_5 := Aside0.mk (Kd.R_below (ra_ HO_5.out) hb)
                 replace HB := bt_ HB hb
                 (try clear hb)
                 (try clear hb2)
                 (try clear hk)
                 (try clear hi)
                 refine hK.out _ _ ⟨HS0_, HS1_, HS2_, HS3_, (clTr HB.out hw162_0 :), (clTr HB.out hw162_1 :), (clTr HB.out hw162_2 :), (clTr HB.out hw162_3 :)⟩ (fun hHeld => ?_)
                 clear hK K
                 refine norm_ (a' := ?_) ?_ ?_
                 rotate_left
                 ·show Act.put _ (some 28) _ = _
                  simp only [Act.put, lstS, lstZ, lstC, i64_w, i32_w]
                  rfl
                 refine one_ (i := 17) (N := some 35) (bv_ 20 262143) rfl rfl (one_of HT_.out (by kernel_rfl)) (by decide) (fun K hK => ?_)
                 refine goes_ Try.func77 (by kernel_rfl) rfl #[.int .i64 a0, .agg #[.int .i64 ((rd_T52 l1 x6_1).f0.f0), .int .i64 ((rd_T52 l1 x6_1).f0.f1), .int .i64 ((rd_T52 l1 x6_1).f0.f2)]] (by rfl) rfl rfl (by (try simp only [List.map_toArray, List.map_cons, List.map_nil]); first | done | rfl | (simp only [List.length_drop, List.length_take]; rfl)) ?_
                 with_reducible refine (spec_l08Key.calls k2 a0 ((rd_T52 l1 x6_1).f0.f0) ((rd_T52 l1 x6_1).f0.f1) ((rd_T52 l1 x6_1).f0.f2) t163 _ A14.out).mono ?_
                 rintro e w28 ⟨rfl, hb⟩
                 have HS0_ := (hb.cell (World.block_lt_of_cell? _ _ (hHeld.1))).trans (hHeld.1)
                 have HS1_ := (hb.cell (World.block_lt_of_cell? _ _ (hHeld.2.1))).trans (hHeld.2.1)
                 have HS2_ := (hb.cell (World.block_lt_of_cell? _ _ (hHeld.2.2.1))).trans (hHeld.2.2.1)
                 have HS3_ := (hb.cell (World.block_lt_of_cell? _ _ (hHeld.2.2.2.1))).trans (hHeld.2.2.2.1)
                 refine ⟨_, rfl, ?_⟩
                 replace HO_5 := Aside0.mk (Kd.R_below (ra_ HO_5.out) hb)
                 replace HB := bt_ HB hb
                 (try clear hb)
                 (try clear hb2)
                 (try clear hk)
                 (try clear hi)
                 refine hK.out _ _ ⟨HS0_, HS1_, HS2_, HS3_, (clTr HB.out hw162_0 :), (clTr HB.out hw162_1 :), (clTr HB.out hw162_2 :), (clTr HB.out hw162_3 :)⟩ (fun hHeld => ?_)
                 clear hK K
                 refine norm_ (a' := ?_) ?_ ?_
                 rotate_left
                 ·show Act.put _ (some 35) _ = _
                  simp only [Act.put, lstS, lstZ, lstC, i64_w, i32_w]
                  rfl
                 refine pu_ HT_ 18 (some 36) (bv_ 20 524287) ?_
                 refine pu_ HT_ 19 (some 37) (bv_ 20 1048575) ?_
                 refine done_ (done_of HT_.out (by kernel_rfl)) ?_
                 try go_wp2
                 replace HO_5 := Aside0.mk (Kd.R_drew HO_5.out)
                 replace HB := Aside0.mk (below_drew1 HB.out)
                 have p164 : 0 ≤ (x6_1 : Int) := od_
                 have q164 : x6_1 < (l1.length : Int) := od_
                 obtain ⟨ad164, e164, hx164_0, hx164_1, hx164_2, hx164_3⟩ := at_T52 HR1.out x6_1 p164 q164
                 have hw164_3 := hx164_3
                 have hw164_2 := hx164_2
                 have hw164_1 := hx164_1
                 have hw164_0 := hx164_0
                 obtain rfl : ad162 = ad164 := (by injection e164)
                 replace hx164_0 := clTr HB.out hx164_0
                 replace hx164_1 := clTr HB.out hx164_1
                 replace hx164_2 := clTr HB.out hx164_2
                 replace hx164_3 := clTr HB.out hx164_3
                 replace p164 := eq_true p164
                 replace q164 := eq_true q164
                 have q30 : (x7_2 : Int) ≤ ((x5_1.length : Int) : Int) := od_
                 obtain ⟨i030, hi030, _, hsz30, _⟩ := info_parts info52
                 have hroom30 : x5_1.length ≤ co6 := (Kd.R_reads' HO_5.out).2.1
                 have hC30 : Kd.C k52 _ (some ad160) x5_1.length x5_1 := (Kd.R_reads' HO_5.out).2.2
                 have q030 : (0 : Int) ≤ (x7_2 : Int) := od_
                 have hcut30 := cut_from (P := Try.prog) 26 52 .i64 Try.underlying26 hi030 4 hsz30 (some ad160) x5_1.length co6 x7_2 q030 q30
                 have hr30 := Kd.C_drop (m := (x7_2 : Int).toNat) (c := co6) hC30 (by omega) hroom30
                 obtain ⟨A30, hA30⟩ : ∃ A1, A1 = (if co6 = (x7_2 : Int).toNat then (some ad160) else ((some ad160) : Option Addr).map (·.add ((x7_2 : Int).toNat * 4))) := ⟨_, rfl⟩
                 obtain ⟨c30, hc30⟩ : ∃ c1, c1 = co6 - (x7_2 : Int).toNat := ⟨_, rfl⟩
                 have hy30 : y168.length = x5_1.length - (x7_2 : Int).toNat := (by rw [Ny168.out, List.length_drop] <;> omega)
                 rw [show (x5_1).drop (x7_2 : Int).toNat = y168 from Ny168.out.symm] at hr30
                 replace hr30 : Kd.C k52 _ A30 y168.length y168 := (by rw [hA30]; exact hr30)
                 rw [← hy30, ← hA30, ← hc30] at hcut30
                 have HR171 := Aside0.mk hr30
                 have HC171 := Aside0.mk (show y168.length ≤ c30 from by rw [hy30, hc30]; exact Nat.sub_le_sub_right hroom30 _)
                 clear hr30 hC30 hroom30 hi030 hsz30 hc30
                 have KY30 := Aside0.mk hy30
                 have KA30 := Aside0.mk hA30
                 clear hy30 hA30
                 have KL30 := Aside0.mk (show (x7_2 : Int).toNat ≤ x5_1.length from by omega)
                 replace q30 := eq_true q30
                 refine start_ (n := 10) (S := fun w' => w'.cell? (ad162.add ((x6_1).toNat * 4)) = some (.int .i64 ((rd_T52 l1 x6_1).f0.f0)) ∧ w'.cell? ⟨(ad162.add ((x6_1).toNat * 4)).block, (ad162.add ((x6_1).toNat * 4)).off + 1, none⟩ = some (.int .i64 ((rd_T52 l1 x6_1).f0.f1)) ∧ w'.cell? ⟨(ad162.add ((x6_1).toNat * 4)).block, (ad162.add ((x6_1).toNat * 4)).off + 2, none⟩ = some (.int .i64 ((rd_T52 l1 x6_1).f0.f2)) ∧ w'.cell? ⟨(ad162.add ((x6_1).toNat * 4)).block, (ad162.add ((x6_1).toNat * 4)).off + 3, none⟩ = some (.int .i64 ((rd_T52 l1 x6_1).f1))) (ds := []) (bv_ 10 0) (by kernel_rfl) rfl rfl ⟨(clTr HB.out hw164_0 :), (clTr HB.out hw164_1 :), (clTr HB.out hw164_2 :), (clTr HB.out hw164_3 :)⟩ (fun hHeld => ?_); refine with_tabW spec_l08Sorted.tab8 spec_l08Sorted.bits8 (fun HT_ HW_ => ?_)
                 generalize w28.drew = w29 at HO_5 HB HR171 hx164_0 hx164_1 hx164_2 hx164_3 hHeld ⊢
                 refine pu_ HT_ 0 (some 40) (bv_ 10 1) ?_
                 refine pu_ HT_ 1 (some 41) (bv_ 10 3) ?_
                 refine pu_ HT_ 2 (some 42) (bv_ 10 7) ?_
                 refine pu_ HT_ 5 (some 45) (bv_ 10 39) ?_
                 refine pu_ HT_ 6 (some 46) (bv_ 10 103) ?_
                 refine pu_ HT_ 7 (some 47) (bv_ 10 231) ?_
                 refine ta_ HT_ HW_ 3 (some 43) (bv_ 10 239) hHeld ?_ (hy := by rintro w' ⟨s0, s1, s2, s3⟩; go_simp; with_reducible rfl)
                 refine one_ (i := 4) (N := some 44) (bv_ 10 255) rfl rfl (one_of HT_.out (by kernel_rfl)) (by decide) (fun K hK => ?_)
                 refine Kd.R_lit_step k52 _ 52 ?hg (N := 44) ?hd (xs := ([(⟨(⟨(rd_T52 l1 x6_1).f0.f0, (rd_T52 l1 x6_1).f0.f1, (rd_T52 l1 x6_1).f0.f2⟩ : S25), (rd_T52 l1 x6_1).f1⟩ : S52)] : List (S52))) (inner := [.int .i64 ((rd_T52 l1 x6_1).f0.f0), .int .i64 ((rd_T52 l1 x6_1).f0.f1), .int .i64 ((rd_T52 l1 x6_1).f0.f2), .int .i64 ((rd_T52 l1 x6_1).f1)]) (ok := fun _ => True) (okp := fun _ => True) ?hr ?hp (fun _ hk => hk) trivial (Below.refl _ _) (Nat.le_refl _) (by simp) ?_; (case hd => rfl); (case hg => rfl); (case hr => first | (go_simp; done) | (go_simp; rfl)); (case hp => exact (Reps.c4 (show Kd.M k52 _ _ _ (⟨(⟨(rd_T52 l1 x6_1).f0.f0, (rd_T52 l1 x6_1).f0.f1, (rd_T52 l1 x6_1).f0.f2⟩ : S25), (rd_T52 l1 x6_1).f1⟩ : S52) [.int .i64 ((rd_T52 l1 x6_1).f0.f0), .int .i64 ((rd_T52 l1 x6_1).f0.f1), .int .i64 ((rd_T52 l1 x6_1).f0.f2), .int .i64 ((rd_T52 l1 x6_1).f1)] from (k52_mkM _ _ _ (⟨(⟨(rd_T52 l1 x6_1).f0.f0, (rd_T52 l1 x6_1).f0.f1, (rd_T52 l1 x6_1).f0.f2⟩ : S25), (rd_T52 l1 x6_1).f1⟩ : S52) )) (Reps.none _ _)))
                 intro v166 w31 ho32 hb hg_ hnew_
                 clear hg_ hnew_
                 (first | rw [← Ny165.out] at ho32 | (simp only [Int.reduceToNat] at ho32; rw [← Ny165.out] at ho32))
                 have HO167 := Aside0.mk (Kd.R_lower (Kd.R_new' ho32 (Kd.R_lt (ra_ HO_5.out))) (below_size (bw_ HB).out))
                 replace HO_5 := Aside0.mk (Kd.R_elder' (ra_ HO_5.out) (Kd.R_base ho32) hb)
                 replace HR171 := Aside0.mk (Kd.C_below (by repeat (first | (with_reducible exact HR171.out) | (with_reducible refine Kd.C_alloc ?_ _) | (with_reducible refine Kd.C_drewN ?_ _) | (with_reducible refine Kd.C_drew ?_) | exact HR171.out)) hb)
                 replace HB := bt_ HB hb
                 clear hb ho32
                 refine hK.out _ _ ⟨(clTr HB.out hw164_0 :), (clTr HB.out hw164_1 :), (clTr HB.out hw164_2 :), (clTr HB.out hw164_3 :)⟩ (fun hHeld => ?_)
                 clear hK K
                 refine norm_ (a' := ?_) ?_ ?_
                 rotate_left
                 ·show Act.put _ (some 44) _ = _
                  simp only [Act.put, lstS, lstZ, lstC, i64_w, i32_w]
                  rfl
                 refine one_ (i := 8) (N := some 48) (bv_ 10 511) rfl rfl (one_of HT_.out (by kernel_rfl)) (by decide) (fun K hK => ?_)
                 refine Kd.R_append_rows_step k52 (w0 := w) w.heap.size (by rfl) (.tmp 44) (.tmp 47) 26 52 (.agg #[(.int .i64 0), (.int .i64 0), (.int .i64 0), (.int .i64 0)]) 32 rfl Try.underlying26 info52 rfl (by decide) (by omega) v166 y165 y168 _ _ _ (fun k_ => some k_ ≠ (.slice (some ad160) x5_1.length co6 : Value).ownBlock) (fun _ => False) rfl rfl ?aO ?aR (fun _ _ h => h) (fun _ h => h.elim) ?aF ?aB ?aS ?aL ?_
                 (case aR => repeat (first | exact (by repeat (first | (with_reducible exact HR171.out) | (with_reducible refine Kd.C_alloc ?_ _) | (with_reducible refine Kd.C_drewN ?_ _) | (with_reducible refine Kd.C_drew ?_) | exact HR171.out)) | (with_reducible refine Kd.C_alloc ?_ _) | (with_reducible refine Kd.C_drewN ?_ _) | (with_reducible refine Kd.C_drew ?_)))
                 (case aB => exact (bw_ HB).out)
                 (case aF => exact (fun k_ hk => Kd.fresh' (Kd.R_lt (ra_ HO_5.out)) k_ hk))
                 (case aO => exact (by (with_reducible repeat (first | apply Kd.R_alloc | apply Kd.R_drewN | apply Kd.R_drew)); exact Kd.R_mono HO167.out (fun _ hk => hk.2)))
                 (case aS => exact (below_size (bw_ HB).out))
                 (case aL => have := LMc21.out; omega)
                 intro v173 w33 ho hb hg hat
                 rw [← Ny172.out] at ho
                 have n0_ := Aside0.mk (Kd.R_after (ok := (fun _ => True)) (ra_ HO_5.out) hg hat)
                 have n1_ := Aside0.mk (hb)
                 have n2_ := Aside0.mk ((show Kd.C k52 w33 A30 y168.length y168 from by rw [Ny168.out, KA30.out]; exact Kd.C_drop (m := (x7_2 : Int).toNat) (c := co6) ((Kd.R_reads' (Kd.R_after (ok := (fun _ => True)) (ra_ HO_5.out) hg hat)).2.2) KL30.out ((Kd.R_reads' (Kd.R_after (ok := (fun _ => True)) (ra_ HO_5.out) hg hat)).2.1)))
                 have n3_ := Aside0.mk (ho)
                 clear HO_5
                 clear HB
                 clear HR171
                 clear HO167
                 have HO_5 := n0_
                 have HB := n1_
                 have HR171 := n2_
                 have HO174 := n3_
                 clear n0_ n1_ n2_ n3_
                 clear ho hb hg hat
                 refine hK.out _ _ ⟨(clTr HB.out hw164_0 :), (clTr HB.out hw164_1 :), (clTr HB.out hw164_2 :), (clTr HB.out hw164_3 :)⟩ (fun hHeld => ?_)
                 clear hK K
                 refine norm_ (a' := ?_) ?_ ?_
                 rotate_left
                 ·show Act.put _ (some 48) _ = _
                  simp only [Act.put, lstS, lstZ, lstC, i64_w, i32_w]
                  rfl
                 refine pu_ HT_ 9 (some 8) (bv_ 10 1023) ?_
                 refine done_ (done_of HT_.out (by kernel_rfl)) ?_
                 try go_wp2_with (first | ((with_reducible refine gate_dst (N := 49) rfl ?_); refine Kd.R_lit k52 _ 52 ?hg (N := 49) ?hd (xs := ([] : List (S52))) (inner := []) (ok := fun _ => True) (okp := fun _ => True) ?hr ?hp (fun _ hk => hk) trivial (Below.refl _ _) (Nat.le_refl _) (by simp) ?_; (case hd => rfl); (case hg => rfl); (case hr => first | (go_simp; done) | (go_simp; rfl)); (case hp => exact (Reps.none _ _)); intro v176 w34 ho35 hb hg_ hnew_; clear hg_ hnew_; (first | rw [← Ny175.out] at ho35 | (simp only [Int.reduceToNat] at ho35; rw [← Ny175.out] at ho35)); have HO177 := Aside0.mk (Kd.R_lower (Kd.R_new' (Kd.R_new' ho35 (Kd.R_lt (ra_ HO_5.out))) (Kd.R_lt (ra_ HO174.out))) (below_size (bw_ HB).out)); replace HO_5 := Aside0.mk (Kd.R_elder' (ra_ HO_5.out) (Kd.R_base ho35) hb); replace HO174 := Aside0.mk (Kd.R_elder' (ra_ HO174.out) (Kd.R_base ho35) hb); replace HR171 := Aside0.mk (Kd.C_below (by repeat (first | (with_reducible exact HR171.out) | (with_reducible refine Kd.C_alloc ?_ _) | (with_reducible refine Kd.C_drewN ?_ _) | (with_reducible refine Kd.C_drew ?_) | exact HR171.out)) hb); replace HB := bt_ HB hb; clear hb ho35; have q36 : (x7_2 : Int) ≤ ((x5_1.length : Int) : Int) := od_; obtain ⟨i036, hi036, _, hsz36, _⟩ := info_parts info52; have hroom36 : x5_1.length ≤ co6 := (Kd.R_reads' HO_5.out).2.1; have hC36 : Kd.C k52 _ (some ad160) x5_1.length x5_1 := (Kd.R_reads' HO_5.out).2.2; have hcut36 := cut_to (P := Try.prog) 26 52 .i64 Try.underlying26 hi036 (some ad160) x5_1.length co6 x7_2 od_ q36 hroom36; have hr36 := Kd.C_take (m := (x7_2 : Int).toNat) hC36 (by omega); have hy36 : y178.length = (x7_2 : Int).toNat := (by rw [Ny178.out, List.length_take]; omega); rw [← Ny178.out] at hr36; rw [← hy36] at hcut36; have HR181 := Aside0.mk hr36; have HC181 := Aside0.mk (show y178.length ≤ co6 from by omega); clear hr36 hC36 hroom36 hi036 hsz36; have KY36 := Aside0.mk hy36; clear hy36; have KL36 := Aside0.mk (show (x7_2 : Int).toNat ≤ x5_1.length from by omega); replace q36 := eq_true q36) | ((with_reducible refine gate_builtin (b := .append) (xs := #[.tmp 49, .tmp 52]) rfl ?_); at_builtin; refine Kd.R_append_rows k52 (w0 := w) w.heap.size rfl (.tmp 49) (.tmp 52) 26 52 (.agg #[(.int .i64 0), (.int .i64 0), (.int .i64 0), (.int .i64 0)]) 32 rfl Try.underlying26 info52 rfl (by decide) (by omega) v176 y175 y178 _ _ _ (fun k_ => some k_ ≠ (.slice (some ad160) x5_1.length co6 : Value).ownBlock ∧ some k_ ≠ (v173 : Value).ownBlock) (fun _ => False) rfl rfl ?aO ?aR (fun _ _ h => h) (fun _ h => h.elim) ?aF ?aB ?aS ?aL ?_; (case aR => repeat (first | exact (by repeat (first | (with_reducible exact HR181.out) | (with_reducible refine Kd.C_alloc ?_ _) | (with_reducible refine Kd.C_drewN ?_ _) | (with_reducible refine Kd.C_drew ?_) | exact HR181.out)) | (with_reducible refine Kd.C_alloc ?_ _) | (with_reducible refine Kd.C_drewN ?_ _) | (with_reducible refine Kd.C_drew ?_))); (case aB => exact (bw_ HB).out); (case aF => exact (fun k_ hk => ⟨Kd.fresh' (Kd.R_lt (ra_ HO_5.out)) k_ hk, Kd.fresh' (Kd.R_lt (ra_ HO174.out)) k_ hk⟩)); (case aO => exact (by (with_reducible repeat (first | apply Kd.R_alloc | apply Kd.R_drewN | apply Kd.R_drew)); exact Kd.R_mono HO177.out (fun _ hk => ⟨hk.1.2, hk.2⟩))); (case aS => exact (below_size (bw_ HB).out)); (case aL => have := LMc24.out; omega); intro v183 w37 ho hb hg hat; rw [← Ny182.out] at ho; have n0_ := Aside0.mk (Kd.R_after (ok := (fun k_ => some k_ ≠ (v173 : Value).ownBlock)) (by (with_reducible repeat (first | apply Kd.R_alloc | apply Kd.R_drewN | apply Kd.R_drew)); exact Kd.R_mono HO_5.out (fun _ hk => ⟨hk.1.2, hk.2⟩)) hg hat); have n1_ := Aside0.mk (Kd.R_after (ok := (fun k_ => some k_ ≠ (.slice (some ad160) x5_1.length co6 : Value).ownBlock)) (ra_ HO174.out) hg hat); have n2_ := Aside0.mk (hb); have n3_ := Aside0.mk ((show Kd.C k52 w37 A30 y168.length y168 from by rw [Ny168.out, KA30.out]; exact Kd.C_drop (m := (x7_2 : Int).toNat) (c := co6) ((Kd.R_reads' (Kd.R_after (ok := (fun k_ => some k_ ≠ (v173 : Value).ownBlock)) (by (with_reducible repeat (first | apply Kd.R_alloc | apply Kd.R_drewN | apply Kd.R_drew)); exact Kd.R_mono HO_5.out (fun _ hk => ⟨hk.1.2, hk.2⟩)) hg hat)).2.2) KL30.out ((Kd.R_reads' (Kd.R_after (ok := (fun k_ => some k_ ≠ (v173 : Value).ownBlock)) (by (with_reducible repeat (first | apply Kd.R_alloc | apply Kd.R_drewN | apply Kd.R_drew)); exact Kd.R_mono HO_5.out (fun _ hk => ⟨hk.1.2, hk.2⟩)) hg hat)).2.1))); have n4_ := Aside0.mk ((show Kd.C k52 w37 (some ad160) y178.length y178 from by rw [Ny178.out]; exact Kd.C_take (m := (x7_2 : Int).toNat) ((Kd.R_reads' (Kd.R_after (ok := (fun k_ => some k_ ≠ (v173 : Value).ownBlock)) (by (with_reducible repeat (first | apply Kd.R_alloc | apply Kd.R_drewN | apply Kd.R_drew)); exact Kd.R_mono HO_5.out (fun _ hk => ⟨hk.1.2, hk.2⟩)) hg hat)).2.2) KL36.out)); have n5_ := Aside0.mk (ho); clear HO_5; clear HO174; clear HB; clear HR171; clear HR181; clear HO177; have HO_5 := n0_; have HO174 := n1_; have HB := n2_; have HR171 := n3_; have HR181 := n4_; have HO184 := n5_; clear n0_ n1_ n2_ n3_ n4_ n5_; clear ho hb hg hat; obtain ⟨Ao39, co39, eo39⟩ := Kd.R_slice HO174.out; subst eo39) | ((with_reducible refine gate_builtin (b := .append) (xs := #[.tmp 53, .tmp 54]) rfl ?_); at_builtin; refine Kd.R_append_rows k52 (w0 := w) w.heap.size rfl (.tmp 53) (.tmp 54) 26 52 (.agg #[(.int .i64 0), (.int .i64 0), (.int .i64 0), (.int .i64 0)]) 32 rfl Try.underlying26 info52 rfl (by decide) (by omega) v183 y182 y172 _ _ _ (fun k_ => some k_ ≠ (.slice (some ad160) x5_1.length co6 : Value).ownBlock ∧ some k_ ≠ (.slice Ao39 y172.length co39 : Value).ownBlock) (fun _ => False) rfl rfl ?aO ?aR (fun _ _ h => h) (fun _ h => h.elim) ?aF ?aB ?aS ?aL ?_; (case aR => repeat (first | exact (Kd.R_reads' HO174.out).2.2 | (with_reducible refine Kd.C_alloc ?_ _) | (with_reducible refine Kd.C_drewN ?_ _) | (with_reducible refine Kd.C_drew ?_))); (case aB => exact (bw_ HB).out); (case aF => exact (fun k_ hk => ⟨Kd.fresh' (Kd.R_lt (ra_ HO_5.out)) k_ hk, Kd.fresh' (Kd.R_lt (ra_ HO174.out)) k_ hk⟩)); (case aO => exact (ra_ HO184.out)); (case aS => exact (below_size (bw_ HB).out)); (case aL => have := LMc25.out; omega); intro v186 w38 ho hb hg hat; rw [← Ny185.out] at ho; have n0_ := Aside0.mk (Kd.R_after (ok := (fun k_ => some k_ ≠ (.slice Ao39 y172.length co39 : Value).ownBlock)) (ra_ HO_5.out) hg hat); have n1_ := Aside0.mk (Kd.R_after (ok := (fun k_ => some k_ ≠ (.slice (some ad160) x5_1.length co6 : Value).ownBlock)) (ra_ HO174.out) hg hat); have n2_ := Aside0.mk (hb); have n3_ := Aside0.mk ((show Kd.C k52 w38 A30 y168.length y168 from by rw [Ny168.out, KA30.out]; exact Kd.C_drop (m := (x7_2 : Int).toNat) (c := co6) ((Kd.R_reads' (Kd.R_after (ok := (fun k_ => some k_ ≠ (.slice Ao39 y172.length co39 : Value).ownBlock)) (ra_ HO_5.out) hg hat)).2.2) KL30.out ((Kd.R_reads' (Kd.R_after (ok := (fun k_ => some k_ ≠ (.slice Ao39 y172.length co39 : Value).ownBlock)) (ra_ HO_5.out) hg hat)).2.1))); have n4_ := Aside0.mk ((show Kd.C k52 w38 (some ad160) y178.length y178 from by rw [Ny178.out]; exact Kd.C_take (m := (x7_2 : Int).toNat) ((Kd.R_reads' (Kd.R_after (ok := (fun k_ => some k_ ≠ (.slice Ao39 y172.length co39 : Value).ownBlock)) (ra_ HO_5.out) hg hat)).2.2) KL36.out)); have n5_ := Aside0.mk (ho); clear HO_5; clear HO174; clear HB; clear HR171; clear HR181; clear HO184; have HO_5 := n0_; have HO174 := n1_; have HB := n2_; have HR171 := n3_; have HR181 := n4_; have HO187 := n5_; clear n0_ n1_ n2_ n3_ n4_ n5_; clear ho hb hg hat))
                 go_roundg k2
                 case measure => have := HK1.out; have := HK2.out; omega
                 case rel => exact ⟨(y185), (wrap64 (x6_1 + 1)), en_, H', ⟨by have := HK1.out; have := HK2.out; omega⟩, ⟨by (with_reducible repeat (first | apply Kd.R_alloc | apply Kd.R_drewN | apply Kd.R_drew)); exact Kd.R_mono HO187.out (fun _ hk => trivial)⟩, bw_ HB⟩
                ·rw [if_neg c25] at H
                 exact absurd H (by simp)
               ·rw [if_neg c24] at H
                exact absurd H (by simp)
              ·rw [if_neg c21] at H
               exact absurd H (by simp)
             ·rw [if_neg c20] at H
              exact absurd H (by simp)
            ·rw [if_neg c19] at H
             exact absurd H (by simp)
          ·rw [if_neg c13] at H
           exact absurd H (by simp)
         ·rw [if_neg c12] at H
          exact absurd H (by simp)
        ·rw [if_neg c10] at H
         exact absurd H (by simp)
       ·rw [if_neg c9] at H
        exact absurd H (by simp)
      ·rw [if_neg c7] at H
       have c7b0 : decide (0 < x7_2) = false := decide_eq_false c7
       clear c7
       by_cases c40 : 0 ≤ x6_1
       ·rw [if_pos c40] at H
        have c40b0 : decide (0 ≤ x6_1) = true := decide_eq_true c40
        clear c40
        by_cases c41 : x6_1 < (l1.length : Int)
        ·rw [if_pos c41] at H
         have c41b0 : decide (x6_1 < (l1.length : Int)) = true := decide_eq_true c41
         clear c41
         obtain ⟨y189, hy189⟩ : ∃ y_ : List (S52), y_ = (([(⟨(⟨(rd_T52 l1 x6_1).f0.f0, (rd_T52 l1 x6_1).f0.f1, (rd_T52 l1 x6_1).f0.f2⟩ : S25), (rd_T52 l1 x6_1).f1⟩ : S52)] : List (S52))) := ⟨_, rfl⟩
         replace H : (if 0 ≤ x7_2 then (if x7_2 ≤ (x5_1.length : Int) then ((some (x5_1.drop (x7_2 : Int).toNat : List (S52))).bind fun y192 => (if y189.length + y192.length < 4398046511104 then ((some (y189 ++ y192 : List (S52))).bind fun y196 => ((some (([] : List (S52)) : List (S52))).bind fun y199 => ((some (x5_1.take (x7_2 : Int).toNat : List (S52))).bind fun y202 => (if y199.length + y202.length < 4398046511104 then ((some (y199 ++ y202 : List (S52))).bind fun y206 => (if y206.length + y196.length < 4398046511104 then (spec_l08Sorted.l0 k2 a0 l1 (y206 ++ y196) (wrap64 (x6_1 + 1))) else (none))) else (none))))) else (none))) else (none)) else (none)) = some r := by first | (rw [hy189]; with_reducible exact H) | (have H2_ := (Option.bind_some _ _).symm.trans H; rw [hy189]; with_reducible exact H2_) | (have H2_ := (Option.bind_some _ _).symm.trans H; with_reducible exact H2_) | with_reducible exact H | (rw [hy189]; exact H) | exact H
         have Ny189 := Aside0.mk hy189
         clear hy189
         by_cases c42 : 0 ≤ x7_2
         ·rw [if_pos c42] at H
          have c42b0 := eq_true c42
          have c42b1 : decide (0 ≤ x7_2) = true := decide_eq_true c42
          clear c42
          by_cases c43 : x7_2 ≤ (x5_1.length : Int)
          ·rw [if_pos c43] at H
           have c43b0 := eq_true c43
           have c43b1 : decide (x7_2 ≤ (x5_1.length : Int)) = true := decide_eq_true c43
           clear c43
           obtain ⟨y192, hy192⟩ : ∃ y_ : List (S52), y_ = (x5_1.drop (x7_2 : Int).toNat) := ⟨_, rfl⟩
           replace H : (if y189.length + y192.length < 4398046511104 then ((some (y189 ++ y192 : List (S52))).bind fun y196 => ((some (([] : List (S52)) : List (S52))).bind fun y199 => ((some (x5_1.take (x7_2 : Int).toNat : List (S52))).bind fun y202 => (if y199.length + y202.length < 4398046511104 then ((some (y199 ++ y202 : List (S52))).bind fun y206 => (if y206.length + y196.length < 4398046511104 then (spec_l08Sorted.l0 k2 a0 l1 (y206 ++ y196) (wrap64 (x6_1 + 1))) else (none))) else (none))))) else (none)) = some r := by first | (rw [hy192]; with_reducible exact H) | (have H2_ := (Option.bind_some _ _).symm.trans H; rw [hy192]; with_reducible exact H2_) | (have H2_ := (Option.bind_some _ _).symm.trans H; with_reducible exact H2_) | with_reducible exact H | (rw [hy192]; exact H) | exact H
           have Ny192 := Aside0.mk hy192
           clear hy192
           by_cases c44 : y189.length + y192.length < 4398046511104
           ·rw [if_pos c44] at H
            have LMc44 := Aside0.mk c44
            clear c44
            obtain ⟨y196, hy196⟩ : ∃ y_ : List (S52), y_ = (y189 ++ y192) := ⟨_, rfl⟩
            replace H : ((some (([] : List (S52)) : List (S52))).bind fun y199 => ((some (x5_1.take (x7_2 : Int).toNat : List (S52))).bind fun y202 => (if y199.length + y202.length < 4398046511104 then ((some (y199 ++ y202 : List (S52))).bind fun y206 => (if y206.length + y196.length < 4398046511104 then (spec_l08Sorted.l0 k2 a0 l1 (y206 ++ y196) (wrap64 (x6_1 + 1))) else (none))) else (none)))) = some r := by first | (rw [hy196]; with_reducible exact H) | (have H2_ := (Option.bind_some _ _).symm.trans H; rw [hy196]; with_reducible exact H2_) | (have H2_ := (Option.bind_some _ _).symm.trans H; with_reducible exact H2_) | with_reducible exact H | (rw [hy196]; exact H) | exact H
            have Ny196 := Aside0.mk hy196
            clear hy196
            obtain ⟨y199, hy199⟩ : ∃ y_ : List (S52), y_ = (([] : List (S52))) := ⟨_, rfl⟩
            replace H : ((some (x5_1.take (x7_2 : Int).toNat : List (S52))).bind fun y202 => (if y199.length + y202.length < 4398046511104 then ((some (y199 ++ y202 : List (S52))).bind fun y206 => (if y206.length + y196.length < 4398046511104 then (spec_l08Sorted.l0 k2 a0 l1 (y206 ++ y196) (wrap64 (x6_1 + 1))) else (none))) else (none))) = some r := by first | (rw [hy199]; with_reducible exact H) | (have H2_ := (Option.bind_some _ _).symm.trans H; rw [hy199]; with_reducible exact H2_) | (have H2_ := (Option.bind_some _ _).symm.trans H; with_reducible exact H2_) | with_reducible exact H | (rw [hy199]; exact H) | exact H
            have Ny199 := Aside0.mk hy199
            clear hy199
            have c45b0 := eq_true (od_ : 0 ≤ x7_2)
            have c46b0 := eq_true (od_ : x7_2 ≤ (x5_1.length : Int))
            obtain ⟨y202, hy202⟩ : ∃ y_ : List (S52), y_ = (x5_1.take (x7_2 : Int).toNat) := ⟨_, rfl⟩
            replace H : (if y199.length + y202.length < 4398046511104 then ((some (y199 ++ y202 : List (S52))).bind fun y206 => (if y206.length + y196.length < 4398046511104 then (spec_l08Sorted.l0 k2 a0 l1 (y206 ++ y196) (wrap64 (x6_1 + 1))) else (none))) else (none)) = some r := by first | (rw [hy202]; with_reducible exact H) | (have H2_ := (Option.bind_some _ _).symm.trans H; rw [hy202]; with_reducible exact H2_) | (have H2_ := (Option.bind_some _ _).symm.trans H; with_reducible exact H2_) | with_reducible exact H | (rw [hy202]; exact H) | exact H
            have Ny202 := Aside0.mk hy202
            clear hy202
            by_cases c47 : y199.length + y202.length < 4398046511104
            ·rw [if_pos c47] at H
             have LMc47 := Aside0.mk c47
             clear c47
             obtain ⟨y206, hy206⟩ : ∃ y_ : List (S52), y_ = (y199 ++ y202) := ⟨_, rfl⟩
             replace H : (if y206.length + y196.length < 4398046511104 then (spec_l08Sorted.l0 k2 a0 l1 (y206 ++ y196) (wrap64 (x6_1 + 1))) else (none)) = some r := by first | (rw [hy206]; with_reducible exact H) | (have H2_ := (Option.bind_some _ _).symm.trans H; rw [hy206]; with_reducible exact H2_) | (have H2_ := (Option.bind_some _ _).symm.trans H; with_reducible exact H2_) | with_reducible exact H | (rw [hy206]; exact H) | exact H
             have Ny206 := Aside0.mk hy206
             clear hy206
             by_cases c48 : y206.length + y196.length < 4398046511104
             ·rw [if_pos c48] at H
              have LMc48 := Aside0.mk c48
              clear c48
              obtain ⟨y209, hy209⟩ : ∃ y_ : List (S52), y_ = (y206 ++ y196) := ⟨_, rfl⟩
              replace H : (spec_l08Sorted.l0 k2 a0 l1 y209 (wrap64 (x6_1 + 1))) = some r := by first | (rw [hy209]; with_reducible exact H) | (have H2_ := (Option.bind_some _ _).symm.trans H; rw [hy209]; with_reducible exact H2_) | (have H2_ := (Option.bind_some _ _).symm.trans H; with_reducible exact H2_) | with_reducible exact H | (rw [hy209]; exact H) | exact H
              have Ny209 := Aside0.mk hy209
              clear hy209
              have H' := Aside0.mk H
              clear H
              try go_wp2
              replace HO_5 := Aside0.mk (Kd.R_drew HO_5.out)
              replace HB := Aside0.mk (below_drew1 HB.out)
              refine start_ (n := 20) (S := fun w' => True) (ds := []) (bv_ 20 0) (by kernel_rfl) rfl rfl trivial (fun hHeld => ?_); refine with_tabW spec_l08Sorted.tab6 spec_l08Sorted.bits6 (fun HT_ HW_ => ?_)
              generalize wr.drew = w49 at HO_5 HB hHeld ⊢
              refine pu_ HT_ 0 (some 18) (bv_ 20 1) ?_
              refine pu_ HT_ 1 (some 19) (bv_ 20 3) ?_
              refine pu_ HT_ 2 (some 20) (bv_ 20 7) ?_
              refine pv_ HT_ 3 (some 21) (bv_ 20 15) ?_
              refine pv_ HT_ 4 (some 22) (bv_ 20 31) ?_
              refine pv_ HT_ 5 (some 23) (bv_ 20 63) ?_
              refine pv_ HT_ 6 (some 24) (bv_ 20 127) ?_
              refine pv_ HT_ 7 (some 25) (bv_ 20 255) ?_
              refine pv_ HT_ 8 (some 26) (bv_ 20 511) ?_
              refine pv_ HT_ 9 (some 27) (bv_ 20 1023) ?_
              refine pv_ HT_ 10 (some 28) (bv_ 20 2047) ?_
              refine pv_ HT_ 11 (some 29) (bv_ 20 4095) ?_
              refine pv_ HT_ 12 (some 30) (bv_ 20 8191) ?_
              refine pv_ HT_ 13 (some 31) (bv_ 20 16383) ?_
              refine pv_ HT_ 14 (some 32) (bv_ 20 32767) ?_
              refine pv_ HT_ 15 (some 33) (bv_ 20 65535) ?_
              refine pv_ HT_ 16 (some 34) (bv_ 20 131071) ?_
              refine pv_ HT_ 17 (some 35) (bv_ 20 262143) ?_
              refine pv_ HT_ 18 (some 36) (bv_ 20 524287) ?_
              refine pu_ HT_ 19 (some 37) (bv_ 20 1048575) ?_
              refine done_ (done_of HT_.out (by kernel_rfl)) ?_
              try go_wp2
              replace HO_5 := Aside0.mk (Kd.R_drew HO_5.out)
              replace HB := Aside0.mk (below_drew1 HB.out)
              have p188 : 0 ≤ (x6_1 : Int) := od_
              have q188 : x6_1 < (l1.length : Int) := od_
              obtain ⟨ad188, e188, hx188_0, hx188_1, hx188_2, hx188_3⟩ := at_T52 HR1.out x6_1 p188 q188
              have hw188_3 := hx188_3
              have hw188_2 := hx188_2
              have hw188_1 := hx188_1
              have hw188_0 := hx188_0
              cases e188
              replace hx188_0 := clTr HB.out hx188_0
              replace hx188_1 := clTr HB.out hx188_1
              replace hx188_2 := clTr HB.out hx188_2
              replace hx188_3 := clTr HB.out hx188_3
              replace p188 := eq_true p188
              replace q188 := eq_true q188
              have q51 : (x7_2 : Int) ≤ ((x5_1.length : Int) : Int) := od_
              obtain ⟨i051, hi051, _, hsz51, _⟩ := info_parts info52
              have hroom51 : x5_1.length ≤ co6 := (Kd.R_reads' HO_5.out).2.1
              have hC51 : Kd.C k52 _ Ao6 x5_1.length x5_1 := (Kd.R_reads' HO_5.out).2.2
              have q051 : (0 : Int) ≤ (x7_2 : Int) := od_
              have hcut51 := cut_from (P := Try.prog) 26 52 .i64 Try.underlying26 hi051 4 hsz51 Ao6 x5_1.length co6 x7_2 q051 q51
              have hr51 := Kd.C_drop (m := (x7_2 : Int).toNat) (c := co6) hC51 (by omega) hroom51
              obtain ⟨A51, hA51⟩ : ∃ A1, A1 = (if co6 = (x7_2 : Int).toNat then Ao6 else (Ao6 : Option Addr).map (·.add ((x7_2 : Int).toNat * 4))) := ⟨_, rfl⟩
              obtain ⟨c51, hc51⟩ : ∃ c1, c1 = co6 - (x7_2 : Int).toNat := ⟨_, rfl⟩
              have hy51 : y192.length = x5_1.length - (x7_2 : Int).toNat := (by rw [Ny192.out, List.length_drop] <;> omega)
              rw [show (x5_1).drop (x7_2 : Int).toNat = y192 from Ny192.out.symm] at hr51
              replace hr51 : Kd.C k52 _ A51 y192.length y192 := (by rw [hA51]; exact hr51)
              rw [← hy51, ← hA51, ← hc51] at hcut51
              have HR195 := Aside0.mk hr51
              have HC195 := Aside0.mk (show y192.length ≤ c51 from by rw [hy51, hc51]; exact Nat.sub_le_sub_right hroom51 _)
              clear hr51 hC51 hroom51 hi051 hsz51 hc51
              have KY51 := Aside0.mk hy51
              have KA51 := Aside0.mk hA51
              clear hy51 hA51
              have KL51 := Aside0.mk (show (x7_2 : Int).toNat ≤ x5_1.length from by omega)
              replace q51 := eq_true q51
              refine start_ (n := 10) (S := fun w' => w'.cell? (ad188.add ((x6_1).toNat * 4)) = some (.int .i64 ((rd_T52 l1 x6_1).f0.f0)) ∧ w'.cell? ⟨(ad188.add ((x6_1).toNat * 4)).block, (ad188.add ((x6_1).toNat * 4)).off + 1, none⟩ = some (.int .i64 ((rd_T52 l1 x6_1).f0.f1)) ∧ w'.cell? ⟨(ad188.add ((x6_1).toNat * 4)).block, (ad188.add ((x6_1).toNat * 4)).off + 2, none⟩ = some (.int .i64 ((rd_T52 l1 x6_1).f0.f2)) ∧ w'.cell? ⟨(ad188.add ((x6_1).toNat * 4)).block, (ad188.add ((x6_1).toNat * 4)).off + 3, none⟩ = some (.int .i64 ((rd_T52 l1 x6_1).f1))) (ds := []) (bv_ 10 0) (by kernel_rfl) rfl rfl ⟨(clTr HB.out hw188_0 :), (clTr HB.out hw188_1 :), (clTr HB.out hw188_2 :), (clTr HB.out hw188_3 :)⟩ (fun hHeld => ?_); refine with_tabW spec_l08Sorted.tab8 spec_l08Sorted.bits8 (fun HT_ HW_ => ?_)
              generalize w49.drew = w50 at HO_5 HB HR195 hx188_0 hx188_1 hx188_2 hx188_3 hHeld ⊢
              refine pu_ HT_ 0 (some 40) (bv_ 10 1) ?_
              refine pu_ HT_ 1 (some 41) (bv_ 10 3) ?_
              refine pu_ HT_ 2 (some 42) (bv_ 10 7) ?_
              refine pu_ HT_ 5 (some 45) (bv_ 10 39) ?_
              refine pu_ HT_ 6 (some 46) (bv_ 10 103) ?_
              refine pu_ HT_ 7 (some 47) (bv_ 10 231) ?_
              refine ta_ HT_ HW_ 3 (some 43) (bv_ 10 239) hHeld ?_ (hy := by rintro w' ⟨s0, s1, s2, s3⟩; go_simp; with_reducible rfl)
              refine one_ (i := 4) (N := some 44) (bv_ 10 255) rfl rfl (one_of HT_.out (by kernel_rfl)) (by decide) (fun K hK => ?_)
              refine Kd.R_lit_step k52 _ 52 ?hg (N := 44) ?hd (xs := ([(⟨(⟨(rd_T52 l1 x6_1).f0.f0, (rd_T52 l1 x6_1).f0.f1, (rd_T52 l1 x6_1).f0.f2⟩ : S25), (rd_T52 l1 x6_1).f1⟩ : S52)] : List (S52))) (inner := [.int .i64 ((rd_T52 l1 x6_1).f0.f0), .int .i64 ((rd_T52 l1 x6_1).f0.f1), .int .i64 ((rd_T52 l1 x6_1).f0.f2), .int .i64 ((rd_T52 l1 x6_1).f1)]) (ok := fun _ => True) (okp := fun _ => True) ?hr ?hp (fun _ hk => hk) trivial (Below.refl _ _) (Nat.le_refl _) (by simp) ?_; (case hd => rfl); (case hg => rfl); (case hr => first | (go_simp; done) | (go_simp; rfl)); (case hp => exact (Reps.c4 (show Kd.M k52 _ _ _ (⟨(⟨(rd_T52 l1 x6_1).f0.f0, (rd_T52 l1 x6_1).f0.f1, (rd_T52 l1 x6_1).f0.f2⟩ : S25), (rd_T52 l1 x6_1).f1⟩ : S52) [.int .i64 ((rd_T52 l1 x6_1).f0.f0), .int .i64 ((rd_T52 l1 x6_1).f0.f1), .int .i64 ((rd_T52 l1 x6_1).f0.f2), .int .i64 ((rd_T52 l1 x6_1).f1)] from (k52_mkM _ _ _ (⟨(⟨(rd_T52 l1 x6_1).f0.f0, (rd_T52 l1 x6_1).f0.f1, (rd_T52 l1 x6_1).f0.f2⟩ : S25), (rd_T52 l1 x6_1).f1⟩ : S52) )) (Reps.none _ _)))
              intro v190 w52 ho53 hb hg_ hnew_
              clear hg_ hnew_
              (first | rw [← Ny189.out] at ho53 | (simp only [Int.reduceToNat] at ho53; rw [← Ny189.out] at ho53))
              have HO191 := Aside0.mk (Kd.R_lower (Kd.R_new' ho53 (Kd.R_lt (ra_ HO_5.out))) (below_size (bw_ HB).out))
              replace HO_5 := Aside0.mk (Kd.R_elder' (ra_ HO_5.out) (Kd.R_base ho53) hb)
              replace HR195 := Aside0.mk (Kd.C_below (by repeat (first | (with_reducible exact HR195.out) | (with_reducible refine Kd.C_alloc ?_ _) | (with_reducible refine Kd.C_drewN ?_ _) | (with_reducible refine Kd.C_drew ?_) | exact HR195.out)) hb)
              replace HB := bt_ HB hb
              clear hb ho53
              refine hK.out _ _ ⟨(clTr HB.out hw188_0 :), (clTr HB.out hw188_1 :), (clTr HB.out hw188_2 :), (clTr HB.out hw188_3 :)⟩ (fun hHeld => ?_)
              clear hK K
              refine norm_ (a' := ?_) ?_ ?_
              rotate_left
              ·show Act.put _ (some 44) _ = _
               simp only [Act.put, lstS, lstZ, lstC, i64_w, i32_w]
               rfl
              refine one_ (i := 8) (N := some 48) (bv_ 10 511) rfl rfl (one_of HT_.out (by kernel_rfl)) (by decide) (fun K hK => ?_)
              refine Kd.R_append_rows_step k52 (w0 := w) w.heap.size (by rfl) (.tmp 44) (.tmp 47) 26 52 (.agg #[(.int .i64 0), (.int .i64 0), (.int .i64 0), (.int .i64 0)]) 32 rfl Try.underlying26 info52 rfl (by decide) (by omega) v190 y189 y192 _ _ _ (fun k_ => some k_ ≠ (.slice Ao6 x5_1.length co6 : Value).ownBlock) (fun _ => False) rfl rfl ?aO ?aR (fun _ _ h => h) (fun _ h => h.elim) ?aF ?aB ?aS ?aL ?_
              (case aR => repeat (first | exact (by repeat (first | (with_reducible exact HR195.out) | (with_reducible refine Kd.C_alloc ?_ _) | (with_reducible refine Kd.C_drewN ?_ _) | (with_reducible refine Kd.C_drew ?_) | exact HR195.out)) | (with_reducible refine Kd.C_alloc ?_ _) | (with_reducible refine Kd.C_drewN ?_ _) | (with_reducible refine Kd.C_drew ?_)))
              (case aB => exact (bw_ HB).out)
              (case aF => exact (fun k_ hk => Kd.fresh' (Kd.R_lt (ra_ HO_5.out)) k_ hk))
              (case aO => exact (by (with_reducible repeat (first | apply Kd.R_alloc | apply Kd.R_drewN | apply Kd.R_drew)); exact Kd.R_mono HO191.out (fun _ hk => hk.2)))
              (case aS => exact (below_size (bw_ HB).out))
              (case aL => have := LMc44.out; omega)
              intro v197 w54 ho hb hg hat
              rw [← Ny196.out] at ho
              have n0_ := Aside0.mk (Kd.R_after (ok := (fun _ => True)) (ra_ HO_5.out) hg hat)
              have n1_ := Aside0.mk (hb)
              have n2_ := Aside0.mk ((show Kd.C k52 w54 A51 y192.length y192 from by rw [Ny192.out, KA51.out]; exact Kd.C_drop (m := (x7_2 : Int).toNat) (c := co6) ((Kd.R_reads' (Kd.R_after (ok := (fun _ => True)) (ra_ HO_5.out) hg hat)).2.2) KL51.out ((Kd.R_reads' (Kd.R_after (ok := (fun _ => True)) (ra_ HO_5.out) hg hat)).2.1)))
              have n3_ := Aside0.mk (ho)
              clear HO_5
              clear HB
              clear HR195
              clear HO191
              have HO_5 := n0_
              have HB := n1_
              have HR195 := n2_
              have HO198 := n3_
              clear n0_ n1_ n2_ n3_
              clear ho hb hg hat
              refine hK.out _ _ ⟨(clTr HB.out hw188_0 :), (clTr HB.out hw188_1 :), (clTr HB.out hw188_2 :), (clTr HB.out hw188_3 :)⟩ (fun hHeld => ?_)
              clear hK K
              refine norm_ (a' := ?_) ?_ ?_
              rotate_left
              ·show Act.put _ (some 48) _ = _
               simp only [Act.put, lstS, lstZ, lstC, i64_w, i32_w]
               rfl
              refine pu_ HT_ 9 (some 8) (bv_ 10 1023) ?_
              refine done_ (done_of HT_.out (by kernel_rfl)) ?_
              try go_wp2_with (first | ((with_reducible refine gate_dst (N := 49) rfl ?_); refine Kd.R_lit k52 _ 52 ?hg (N := 49) ?hd (xs := ([] : List (S52))) (inner := []) (ok := fun _ => True) (okp := fun _ => True) ?hr ?hp (fun _ hk => hk) trivial (Below.refl _ _) (Nat.le_refl _) (by simp) ?_; (case hd => rfl); (case hg => rfl); (case hr => first | (go_simp; done) | (go_simp; rfl)); (case hp => exact (Reps.none _ _)); intro v200 w55 ho56 hb hg_ hnew_; clear hg_ hnew_; (first | rw [← Ny199.out] at ho56 | (simp only [Int.reduceToNat] at ho56; rw [← Ny199.out] at ho56)); have HO201 := Aside0.mk (Kd.R_lower (Kd.R_new' (Kd.R_new' ho56 (Kd.R_lt (ra_ HO_5.out))) (Kd.R_lt (ra_ HO198.out))) (below_size (bw_ HB).out)); replace HO_5 := Aside0.mk (Kd.R_elder' (ra_ HO_5.out) (Kd.R_base ho56) hb); replace HO198 := Aside0.mk (Kd.R_elder' (ra_ HO198.out) (Kd.R_base ho56) hb); replace HR195 := Aside0.mk (Kd.C_below (by repeat (first | (with_reducible exact HR195.out) | (with_reducible refine Kd.C_alloc ?_ _) | (with_reducible refine Kd.C_drewN ?_ _) | (with_reducible refine Kd.C_drew ?_) | exact HR195.out)) hb); replace HB := bt_ HB hb; clear hb ho56; have q57 : (x7_2 : Int) ≤ ((x5_1.length : Int) : Int) := od_; obtain ⟨i057, hi057, _, hsz57, _⟩ := info_parts info52; have hroom57 : x5_1.length ≤ co6 := (Kd.R_reads' HO_5.out).2.1; have hC57 : Kd.C k52 _ Ao6 x5_1.length x5_1 := (Kd.R_reads' HO_5.out).2.2; have hcut57 := cut_to (P := Try.prog) 26 52 .i64 Try.underlying26 hi057 Ao6 x5_1.length co6 x7_2 od_ q57 hroom57; have hr57 := Kd.C_take (m := (x7_2 : Int).toNat) hC57 (by omega); have hy57 : y202.length = (x7_2 : Int).toNat := (by rw [Ny202.out, List.length_take]; omega); rw [← Ny202.out] at hr57; rw [← hy57] at hcut57; have HR205 := Aside0.mk hr57; have HC205 := Aside0.mk (show y202.length ≤ co6 from by omega); clear hr57 hC57 hroom57 hi057 hsz57; have KY57 := Aside0.mk hy57; clear hy57; have KL57 := Aside0.mk (show (x7_2 : Int).toNat ≤ x5_1.length from by omega); replace q57 := eq_true q57) | ((with_reducible refine gate_builtin (b := .append) (xs := #[.tmp 49, .tmp 52]) rfl ?_); at_builtin; refine Kd.R_append_rows k52 (w0 := w) w.heap.size rfl (.tmp 49) (.tmp 52) 26 52 (.agg #[(.int .i64 0), (.int .i64 0), (.int .i64 0), (.int .i64 0)]) 32 rfl Try.underlying26 info52 rfl (by decide) (by omega) v200 y199 y202 _ _ _ (fun k_ => some k_ ≠ (.slice Ao6 x5_1.length co6 : Value).ownBlock ∧ some k_ ≠ (v197 : Value).ownBlock) (fun _ => False) rfl rfl ?aO ?aR (fun _ _ h => h) (fun _ h => h.elim) ?aF ?aB ?aS ?aL ?_; (case aR => repeat (first | exact (by repeat (first | (with_reducible exact HR205.out) | (with_reducible refine Kd.C_alloc ?_ _) | (with_reducible refine Kd.C_drewN ?_ _) | (with_reducible refine Kd.C_drew ?_) | exact HR205.out)) | (with_reducible refine Kd.C_alloc ?_ _) | (with_reducible refine Kd.C_drewN ?_ _) | (with_reducible refine Kd.C_drew ?_))); (case aB => exact (bw_ HB).out); (case aF => exact (fun k_ hk => ⟨Kd.fresh' (Kd.R_lt (ra_ HO_5.out)) k_ hk, Kd.fresh' (Kd.R_lt (ra_ HO198.out)) k_ hk⟩)); (case aO => exact (by (with_reducible repeat (first | apply Kd.R_alloc | apply Kd.R_drewN | apply Kd.R_drew)); exact Kd.R_mono HO201.out (fun _ hk => ⟨hk.1.2, hk.2⟩))); (case aS => exact (below_size (bw_ HB).out)); (case aL => have := LMc47.out; omega); intro v207 w58 ho hb hg hat; rw [← Ny206.out] at ho; have n0_ := Aside0.mk (Kd.R_after (ok := (fun k_ => some k_ ≠ (v197 : Value).ownBlock)) (by (with_reducible repeat (first | apply Kd.R_alloc | apply Kd.R_drewN | apply Kd.R_drew)); exact Kd.R_mono HO_5.out (fun _ hk => ⟨hk.1.2, hk.2⟩)) hg hat); have n1_ := Aside0.mk (Kd.R_after (ok := (fun k_ => some k_ ≠ (.slice Ao6 x5_1.length co6 : Value).ownBlock)) (ra_ HO198.out) hg hat); have n2_ := Aside0.mk (hb); have n3_ := Aside0.mk ((show Kd.C k52 w58 A51 y192.length y192 from by rw [Ny192.out, KA51.out]; exact Kd.C_drop (m := (x7_2 : Int).toNat) (c := co6) ((Kd.R_reads' (Kd.R_after (ok := (fun k_ => some k_ ≠ (v197 : Value).ownBlock)) (by (with_reducible repeat (first | apply Kd.R_alloc | apply Kd.R_drewN | apply Kd.R_drew)); exact Kd.R_mono HO_5.out (fun _ hk => ⟨hk.1.2, hk.2⟩)) hg hat)).2.2) KL51.out ((Kd.R_reads' (Kd.R_after (ok := (fun k_ => some k_ ≠ (v197 : Value).ownBlock)) (by (with_reducible repeat (first | apply Kd.R_alloc | apply Kd.R_drewN | apply Kd.R_drew)); exact Kd.R_mono HO_5.out (fun _ hk => ⟨hk.1.2, hk.2⟩)) hg hat)).2.1))); have n4_ := Aside0.mk ((show Kd.C k52 w58 Ao6 y202.length y202 from by rw [Ny202.out]; exact Kd.C_take (m := (x7_2 : Int).toNat) ((Kd.R_reads' (Kd.R_after (ok := (fun k_ => some k_ ≠ (v197 : Value).ownBlock)) (by (with_reducible repeat (first | apply Kd.R_alloc | apply Kd.R_drewN | apply Kd.R_drew)); exact Kd.R_mono HO_5.out (fun _ hk => ⟨hk.1.2, hk.2⟩)) hg hat)).2.2) KL57.out)); have n5_ := Aside0.mk (ho); clear HO_5; clear HO198; clear HB; clear HR195; clear HR205; clear HO201; have HO_5 := n0_; have HO198 := n1_; have HB := n2_; have HR195 := n3_; have HR205 := n4_; have HO208 := n5_; clear n0_ n1_ n2_ n3_ n4_ n5_; clear ho hb hg hat; obtain ⟨Ao60, co60, eo60⟩ := Kd.R_slice HO198.out; subst eo60) | ((with_reducible refine gate_builtin (b := .append) (xs := #[.tmp 53, .tmp 54]) rfl ?_); at_builtin; refine Kd.R_append_rows k52 (w0 := w) w.heap.size rfl (.tmp 53) (.tmp 54) 26 52 (.agg #[(.int .i64 0), (.int .i64 0), (.int .i64 0), (.int .i64 0)]) 32 rfl Try.underlying26 info52 rfl (by decide) (by omega) v207 y206 y196 _ _ _ (fun k_ => some k_ ≠ (.slice Ao6 x5_1.length co6 : Value).ownBlock ∧ some k_ ≠ (.slice Ao60 y196.length co60 : Value).ownBlock) (fun _ => False) rfl rfl ?aO ?aR (fun _ _ h => h) (fun _ h => h.elim) ?aF ?aB ?aS ?aL ?_; (case aR => repeat (first | exact (Kd.R_reads' HO198.out).2.2 | (with_reducible refine Kd.C_alloc ?_ _) | (with_reducible refine Kd.C_drewN ?_ _) | (with_reducible refine Kd.C_drew ?_))); (case aB => exact (bw_ HB).out); (case aF => exact (fun k_ hk => ⟨Kd.fresh' (Kd.R_lt (ra_ HO_5.out)) k_ hk, Kd.fresh' (Kd.R_lt (ra_ HO198.out)) k_ hk⟩)); (case aO => exact (ra_ HO208.out)); (case aS => exact (below_size (bw_ HB).out)); (case aL => have := LMc48.out; omega); intro v210 w59 ho hb hg hat; rw [← Ny209.out] at ho; have n0_ := Aside0.mk (Kd.R_after (ok := (fun k_ => some k_ ≠ (.slice Ao60 y196.length co60 : Value).ownBlock)) (ra_ HO_5.out) hg hat); have n1_ := Aside0.mk (Kd.R_after (ok := (fun k_ => some k_ ≠ (.slice Ao6 x5_1.length co6 : Value).ownBlock)) (ra_ HO198.out) hg hat); have n2_ := Aside0.mk (hb); have n3_ := Aside0.mk ((show Kd.C k52 w59 A51 y192.length y192 from by rw [Ny192.out, KA51.out]; exact Kd.C_drop (m := (x7_2 : Int).toNat) (c := co6) ((Kd.R_reads' (Kd.R_after (ok := (fun k_ => some k_ ≠ (.slice Ao60 y196.length co60 : Value).ownBlock)) (ra_ HO_5.out) hg hat)).2.2) KL51.out ((Kd.R_reads' (Kd.R_after (ok := (fun k_ => some k_ ≠ (.slice Ao60 y196.length co60 : Value).ownBlock)) (ra_ HO_5.out) hg hat)).2.1))); have n4_ := Aside0.mk ((show Kd.C k52 w59 Ao6 y202.length y202 from by rw [Ny202.out]; exact Kd.C_take (m := (x7_2 : Int).toNat) ((Kd.R_reads' (Kd.R_after (ok := (fun k_ => some k_ ≠ (.slice Ao60 y196.length co60 : Value).ownBlock)) (ra_ HO_5.out) hg hat)).2.2) KL57.out)); have n5_ := Aside0.mk (ho); clear HO_5; clear HO198; clear HB; clear HR195; clear HR205; clear HO208; have HO_5 := n0_; have HO198 := n1_; have HB := n2_; have HR195 := n3_; have HR205 := n4_; have HO211 := n5_; clear n0_ n1_ n2_ n3_ n4_ n5_; clear ho hb hg hat))
              go_roundg k2
              case measure => have := HK1.out; have := HK2.out; omega
              case rel => exact ⟨(y209), (wrap64 (x6_1 + 1)), en_, H', ⟨by have := HK1.out; have := HK2.out; omega⟩, ⟨by (with_reducible repeat (first | apply Kd.R_alloc | apply Kd.R_drewN | apply Kd.R_drew)); exact Kd.R_mono HO211.out (fun _ hk => trivial)⟩, bw_ HB⟩
             ·rw [if_neg c48] at H
              exact absurd H (by simp)
            ·rw [if_neg c47] at H
             exact absurd H (by simp)
           ·rw [if_neg c44] at H
            exact absurd H (by simp)
          ·rw [if_neg c43] at H
           exact absurd H (by simp)
         ·rw [if_neg c42] at H
          exact absurd H (by simp)
        ·rw [if_neg c41] at H
         exact absurd H (by simp)
       ·rw [if_neg c40] at H
        exact absurd H (by simp)
   ·rw [if_neg c5] at H
    have c5b0 : decide (x6_1 < (l1.length : Int)) = false := decide_eq_false c5
    clear c5
    obtain rfl := si_ H
    go_wp2
    go_ret
    exact ⟨_, es_, by (with_reducible repeat (first | apply Kd.R_alloc | apply Kd.R_drewN | apply Kd.R_drew)); exact HO_5.out, (bw_ HB).out⟩
end Go.Proofs.Ytbldceikdajdlaa.QD
