-- Written by a program of this session out of Lean's own print of the loaded program; Lean checks it.
import Derived.Test.YtbldceikdajdlaaQCx5
import Derived.Test.YtbldceikdajdlaaQCx14
namespace Go.Proofs.Ytbldceikdajdlaa.QC
open Go.RowKit Go.Proofs.YtbldceikdajdlaaW.PrintWords Go.Proofs.YtbldceikdajdlaaW.PrintLast Go.Proofs.YtbldceikdajdlaaW.PrintMore
attribute [local go_sem] isSome_setCell max2_int min2_int max_two min_two max_three min_three max_four min_four   -- for this text's walks alone
set_option linter.unusedVariables false
set_option linter.unusedSimpArgs false

/-! ### spec_l08Sorted: function 62 -/
mutual
def spec_l08Sorted.l0 : Nat → Int → List (S52) → List (S52) → Int → Option ((List (S52)))
 | 0, _, _, _, _ => none
 | k + 1, x0, x1, x5, x6 => if x6 < (x1.length : Int) then (spec_l08Sorted.l1 k x0 x1 x5 x6 (x5.length : Int)) else (some x5)
def spec_l08Sorted.l1 : Nat → Int → List (S52) → List (S52) → Int → Int → Option ((List (S52)))
 | 0, _, _, _, _, _ => none
 | k + 1, x0, x1, x5, x6, x7 => if x7 > 0 then (if 0 ≤ (wrap64 (x7 - 1)) then (if (wrap64 (x7 - 1)) < (x5.length : Int) then ((spec_l08Key.f k x0 ((rd_T52 x5 (wrap64 (x7 - 1))).f0.f0) ((rd_T52 x5 (wrap64 (x7 - 1))).f0.f1) ((rd_T52 x5 (wrap64 (x7 - 1))).f0.f2)).bind fun t155 => (if 0 ≤ x6 then (if x6 < (x1.length : Int) then ((spec_l08Key.f k x0 ((rd_T52 x1 x6).f0.f0) ((rd_T52 x1 x6).f0.f1) ((rd_T52 x1 x6).f0.f2)).bind fun t157 => (if t155 > t157 then (spec_l08Sorted.l1 k x0 x1 x5 x6 (wrap64 (x7 - 1))) else ((some (([(⟨(⟨(rd_T52 x1 x6).f0.f0, (rd_T52 x1 x6).f0.f1, (rd_T52 x1 x6).f0.f2⟩ : S25), (rd_T52 x1 x6).f1⟩ : S52)] : List (S52)) : List (S52))).bind fun y159 => (if 0 ≤ x7 then (if x7 ≤ (x5.length : Int) then ((some (x5.drop (x7 : Int).toNat : List (S52))).bind fun y162 => (if y159.length + y162.length < 4398046511104 then ((some (y159 ++ y162 : List (S52))).bind fun y166 => ((some (([] : List (S52)) : List (S52))).bind fun y169 => ((some (x5.take (x7 : Int).toNat : List (S52))).bind fun y172 => (if y169.length + y172.length < 4398046511104 then ((some (y169 ++ y172 : List (S52))).bind fun y176 => (if y176.length + y166.length < 4398046511104 then (spec_l08Sorted.l0 k x0 x1 (y176 ++ y166) (wrap64 (x6 + 1))) else (none))) else (none))))) else (none))) else (none)) else (none))))) else (none)) else (none))) else (none)) else (none)) else (if 0 ≤ x6 then (if x6 < (x1.length : Int) then ((some (([(⟨(⟨(rd_T52 x1 x6).f0.f0, (rd_T52 x1 x6).f0.f1, (rd_T52 x1 x6).f0.f2⟩ : S25), (rd_T52 x1 x6).f1⟩ : S52)] : List (S52)) : List (S52))).bind fun y183 => (if 0 ≤ x7 then (if x7 ≤ (x5.length : Int) then ((some (x5.drop (x7 : Int).toNat : List (S52))).bind fun y186 => (if y183.length + y186.length < 4398046511104 then ((some (y183 ++ y186 : List (S52))).bind fun y190 => ((some (([] : List (S52)) : List (S52))).bind fun y193 => ((some (x5.take (x7 : Int).toNat : List (S52))).bind fun y196 => (if y193.length + y196.length < 4398046511104 then ((some (y193 ++ y196 : List (S52))).bind fun y200 => (if y200.length + y190.length < 4398046511104 then (spec_l08Sorted.l0 k x0 x1 (y200 ++ y190) (wrap64 (x6 + 1))) else (none))) else (none))))) else (none))) else (none)) else (none))) else (none)) else (none))
end
def spec_l08Sorted.f (k : Nat) (a0 : Int) (l1 : List (S52)) : Option ((List (S52))) := spec_l08Sorted.l0 k a0 l1 (([] : List (S52))) 0
def spec_l08Sorted.T6 : Bool × List (List Nat × List Nat) := (true, [([], []), ([0], [0]), ([1], [1]), ([2], [2]), ([2], [2]), ([2], [2]), ([5, 2], [2, 5]), ([4, 6, 2], [2, 4, 6]), ([7, 2], [2, 7]), ([8, 2], [2, 8]), ([3, 9, 2, 2], [2, 3, 9]), ([2], [2]), ([2], [2]), ([2], [2]), ([12, 13, 2], [2, 12, 13]), ([14, 2], [2, 14]), ([15, 2], [2, 15]), ([11, 16, 10, 2], [2, 11, 16]), ([10, 17, 2], [2, 10, 17]), ([2, 18], [2, 18])])
def spec_l08Sorted.B6 : List Nat := [0, 1, 3, 7, 7, 7, 39, 119, 247, 503, 1023, 7, 7, 7, 12295, 28679, 61447, 131071, 262143, 524287]
theorem spec_l08Sorted.tab6 : rtab .any (opsOf Try.f62 6) = spec_l08Sorted.T6 := by kernel_rfl
theorem spec_l08Sorted.bits6 : waitsOk spec_l08Sorted.T6.2 spec_l08Sorted.B6 = true := by kernel_rfl
def spec_l08Sorted.T8 : Bool × List (List Nat × List Nat) := (true, [([], []), ([], []), ([0, 1], [0, 1]), ([2], [2]), ([3], [3]), ([], []), ([], []), ([5, 6], [5, 6]), ([4, 7], [4, 7]), ([8, 8, 0, 1, 2, 3, 4, 5, 6, 7, 8], [8])])
def spec_l08Sorted.B8 : List Nat := [0, 0, 3, 7, 15, 0, 0, 96, 255, 511]
theorem spec_l08Sorted.tab8 : rtab .any (opsOf Try.f62 8) = spec_l08Sorted.T8 := by kernel_rfl
theorem spec_l08Sorted.bits8 : waitsOk spec_l08Sorted.T8.2 spec_l08Sorted.B8 = true := by kernel_rfl
set_option maxHeartbeats 8000000 in
set_option maxRecDepth 100000 in
theorem spec_l08Sorted.calls (k : Nat) (a0 : Int) (A1 : Option Addr) (c1 : Nat) (l1 : List (S52)) (r : List (S52)) (w : World) (hr1 : Kd.C k52 w A1 l1.length l1) (hc1 : l1.length ≤ c1) (h : spec_l08Sorted.f k a0 l1 = some r) :
  Calls Try.prog 62 #[.int .i64 a0, .slice A1 l1.length c1] w fun e w' => ∃ v0_ : Value, e = .returned (v0_) ∧ Kd.R k52 52 w' w.heap.size (fun _ => True) v0_ r ∧ Below w.heap.size w w' := by
 have hu52 := Try.underlying52
 have hu25 := Try.underlying25
 have HR1 := Aside0.mk hr1
 have HC1 := Aside0.mk hc1
 clear hr1 hc1
 have HB := Aside0.mk (Below.refl w.heap.size w)
 have H : (spec_l08Sorted.l0 k a0 l1 (([] : List (S52))) 0) = some r := h
 clear h
 obtain ⟨y151, hy151⟩ : ∃ y_ : List (S52), y_ = (([] : List (S52))) := ⟨_, rfl⟩
 replace H : (spec_l08Sorted.l0 k a0 l1 y151 0) = some r := by first | (rw [hy151]; with_reducible exact H) | (have H2_ := (Option.bind_some _ _).symm.trans H; rw [hy151]; with_reducible exact H2_) | (have H2_ := (Option.bind_some _ _).symm.trans H; with_reducible exact H2_) | with_reducible exact H | (rw [hy151]; exact H) | exact H
 have Ny151 := Aside0.mk hy151
 clear hy151
 have H' := Aside0.mk H
 clear H
 go_enter Try.func62, Try.ntmps62
 go_wp2_with (first | ((with_reducible refine gate_dst (N := 9) rfl ?_); refine Kd.R_lit k52 _ 52 ?hg (N := 9) ?hd (xs := ([] : List (S52))) (inner := []) (ok := fun _ => True) (okp := fun _ => True) ?hr ?hp (fun _ hk => hk) trivial (Below.refl _ _) (Nat.le_refl _) (by simp) ?_; (case hd => rfl); (case hg => rfl); (case hr => first | (go_simp; done) | (go_simp; rfl)); (case hp => exact (Reps.none _ _)); intro v152 w3 ho4 hb hg_ hnew_; clear hg_ hnew_; (first | rw [← Ny151.out] at ho4 | (simp only [Int.reduceToNat] at ho4; rw [← Ny151.out] at ho4)); have HO153 := Aside0.mk (Kd.R_lower ho4 (below_size (bw_ HB).out)); replace HB := bt_ HB hb; clear hb ho4))
 go_loopg [5, 6] k (fun kq v5 v6 w' => ∃ (x5_1 : List (S52)) (x6_1 : Int), v6 = .int .i64 x6_1 ∧ Aside0 (spec_l08Sorted.l0 kq a0 l1 x5_1 x6_1 = some r) ∧ Aside0 (kq ≤ k) ∧ Aside0 (Kd.R k52 52 w' w.heap.size (fun _ => True) v5 x5_1) ∧ Aside0 (Below w.heap.size w w'))
 case atStart => exact ⟨(y151), (0), (by first | rfl | (simp; done) | (simp [*]; done) | (simp [wrap64]; done)), H', ⟨Nat.le_refl _⟩, ⟨by (with_reducible repeat (first | apply Kd.R_alloc | apply Kd.R_drewN | apply Kd.R_drew)); exact HO153.out⟩, bw_ HB⟩
 case round =>
  clear H'
  try clear c1
  try clear p2
  obtain ⟨x5_1, x6_1, rfl, HA, HK1, HO_5, HB⟩ := hrel
  cases gk with
  | zero => exact absurd HA.out (by simp [spec_l08Sorted.l0])
  | succ k1 =>
   have H := HA.out
   clear HA
   simp only [spec_l08Sorted.l0] at H
   by_cases c5 : x6_1 < (l1.length : Int)
   ·rw [if_pos c5] at H
    have c5b0 : decide (x6_1 < (l1.length : Int)) = true := decide_eq_true c5
    clear c5
    have H' := Aside0.mk H
    clear H
    obtain ⟨Ao6, co6, eo6⟩ := Kd.R_slice HO_5.out
    subst eo6
    go_wp2
    go_loopg [7] k1 (fun kq v7 w' => ∃ (x7_2 : Int), v7 = .int .i64 x7_2 ∧ Aside0 (spec_l08Sorted.l1 kq a0 l1 x5_1 x6_1 x7_2 = some r) ∧ Aside0 (kq ≤ k1) ∧ Aside0 (Kd.R k52 52 w' w.heap.size (fun _ => True) (.slice Ao6 x5_1.length co6) x5_1) ∧ Aside0 (Below w.heap.size w w'))
    case atStart => exact ⟨((x5_1.length : Int)), (by first | rfl | (simp; done) | (simp [*]; done) | (simp [wrap64]; done)), H', ⟨Nat.le_refl _⟩, ⟨by (with_reducible repeat (first | apply Kd.R_alloc | apply Kd.R_drewN | apply Kd.R_drew)); exact HO_5.out⟩, bw_ HB⟩
    case round =>
     clear H'
     try clear c1
     try clear p2
     try clear c5
     try clear c5b0
     try clear c6
     try clear p2
     obtain ⟨x7_2, rfl, HA, HK2, HO_5, HB⟩ := hrel
     cases gk with
     | zero => exact absurd HA.out (by simp [spec_l08Sorted.l1])
     | succ k2 =>
      have H := HA.out
      clear HA
      simp only [spec_l08Sorted.l1] at H
      by_cases c7 : x7_2 > 0
      ·rw [if_pos c7] at H
       have c7b0 : decide (0 < x7_2) = true := decide_eq_true c7
       clear c7
       obtain ⟨ji8, hji8⟩ : ∃ j_ : Int, (wrap64 (x7_2 - 1)) = j_ := ⟨_, rfl⟩
       replace H : (if 0 ≤ (ji8) then (if (ji8) < (x5_1.length : Int) then ((spec_l08Key.f k2 a0 ((rd_T52 x5_1 (ji8)).f0.f0) ((rd_T52 x5_1 (ji8)).f0.f1) ((rd_T52 x5_1 (ji8)).f0.f2)).bind fun t155 => (if 0 ≤ x6_1 then (if x6_1 < (l1.length : Int) then ((spec_l08Key.f k2 a0 ((rd_T52 l1 x6_1).f0.f0) ((rd_T52 l1 x6_1).f0.f1) ((rd_T52 l1 x6_1).f0.f2)).bind fun t157 => (if t155 > t157 then (spec_l08Sorted.l1 k2 a0 l1 x5_1 x6_1 ji8) else ((some (([(⟨(⟨(rd_T52 l1 x6_1).f0.f0, (rd_T52 l1 x6_1).f0.f1, (rd_T52 l1 x6_1).f0.f2⟩ : S25), (rd_T52 l1 x6_1).f1⟩ : S52)] : List (S52)) : List (S52))).bind fun y159 => (if 0 ≤ x7_2 then (if x7_2 ≤ (x5_1.length : Int) then ((some (x5_1.drop (x7_2 : Int).toNat : List (S52))).bind fun y162 => (if y159.length + y162.length < 4398046511104 then ((some (y159 ++ y162 : List (S52))).bind fun y166 => ((some (([] : List (S52)) : List (S52))).bind fun y169 => ((some (x5_1.take (x7_2 : Int).toNat : List (S52))).bind fun y172 => (if y169.length + y172.length < 4398046511104 then ((some (y169 ++ y172 : List (S52))).bind fun y176 => (if y176.length + y166.length < 4398046511104 then (spec_l08Sorted.l0 k2 a0 l1 (y176 ++ y166) (wrap64 (x6_1 + 1))) else (none))) else (none))))) else (none))) else (none)) else (none))))) else (none)) else (none))) else (none)) else (none)) = some r := by first | (rw [hji8] at H; exact H) | (simp only [hji8] at H ⊢; exact H)
       have hji8w : (IntKind.i64.wrap (x7_2 - 1)) = ji8 := (i64_w _).trans hji8
       by_cases c9 : 0 ≤ (ji8)
       ·rw [if_pos c9] at H
        have c9b0 : decide (0 ≤ (ji8)) = true := decide_eq_true c9
        clear c9
        by_cases c10 : (ji8) < (x5_1.length : Int)
        ·rw [if_pos c10] at H
         have c10b0 : decide ((ji8) < (x5_1.length : Int)) = true := decide_eq_true c10
         clear c10
         replace H := Option.bind_eq_some_iff.mp H
         obtain ⟨t155, A110, H⟩ := H
         have A11 := Aside0.mk A110
         clear A110
         by_cases c12 : 0 ≤ x6_1
         ·rw [if_pos c12] at H
          have c12b0 : decide (0 ≤ x6_1) = true := decide_eq_true c12
          clear c12
          by_cases c13 : x6_1 < (l1.length : Int)
          ·rw [if_pos c13] at H
           have c13b0 : decide (x6_1 < (l1.length : Int)) = true := decide_eq_true c13
           clear c13
           replace H := Option.bind_eq_some_iff.mp H
           obtain ⟨t157, A140, H⟩ := H
           have A14 := Aside0.mk A140
           clear A140
           by_cases c15 : t155 > t157
           ·rw [if_pos c15] at H
            have c15b0 : decide (t157 < t155) = true := decide_eq_true c15
            clear c15
            have H' := Aside0.mk H
            clear H
            try go_wp2
            replace HO_5 := Aside0.mk (Kd.R_drew HO_5.out)
            replace HB := Aside0.mk (below_drew1 HB.out)
            have p154 : 0 ≤ ((ji8) : Int) := of_decide_eq_true (by first | (with_reducible assumption) | assumption)
            have q154 : (ji8) < (x5_1.length : Int) := of_decide_eq_true (by first | (with_reducible assumption) | assumption)
            obtain ⟨ad154, e154, hx154_0, hx154_1, hx154_2, hx154_3⟩ := at_T52 (Kd.R_reads' HO_5.out).2.2 (ji8) p154 q154
            cases e154
            replace p154 := eq_true p154
            replace q154 := eq_true q154
            have p156 : 0 ≤ (x6_1 : Int) := of_decide_eq_true (by first | (with_reducible assumption) | assumption)
            have q156 : x6_1 < (l1.length : Int) := of_decide_eq_true (by first | (with_reducible assumption) | assumption)
            obtain ⟨ad156, e156, hx156_0, hx156_1, hx156_2, hx156_3⟩ := at_T52 HR1.out x6_1 p156 q156
            have hw156_3 := hx156_3
            have hw156_2 := hx156_2
            have hw156_1 := hx156_1
            have hw156_0 := hx156_0
            cases e156
            replace hx156_0 := clTr HB.out hx156_0
            replace hx156_1 := clTr HB.out hx156_1
            replace hx156_2 := clTr HB.out hx156_2
            replace hx156_3 := clTr HB.out hx156_3
            replace p156 := eq_true p156
            replace q156 := eq_true q156
            refine start_ (n := 20) (S := fun w' => w'.cell? (ad154.add (((ji8)).toNat * 4)) = some (.int .i64 ((rd_T52 x5_1 (ji8)).f0.f0)) ∧ w'.cell? ⟨(ad154.add (((ji8)).toNat * 4)).block, (ad154.add (((ji8)).toNat * 4)).off + 1, none⟩ = some (.int .i64 ((rd_T52 x5_1 (ji8)).f0.f1)) ∧ w'.cell? ⟨(ad154.add (((ji8)).toNat * 4)).block, (ad154.add (((ji8)).toNat * 4)).off + 2, none⟩ = some (.int .i64 ((rd_T52 x5_1 (ji8)).f0.f2)) ∧ w'.cell? ⟨(ad154.add (((ji8)).toNat * 4)).block, (ad154.add (((ji8)).toNat * 4)).off + 3, none⟩ = some (.int .i64 ((rd_T52 x5_1 (ji8)).f1)) ∧ w'.cell? (ad156.add ((x6_1).toNat * 4)) = some (.int .i64 ((rd_T52 l1 x6_1).f0.f0)) ∧ w'.cell? ⟨(ad156.add ((x6_1).toNat * 4)).block, (ad156.add ((x6_1).toNat * 4)).off + 1, none⟩ = some (.int .i64 ((rd_T52 l1 x6_1).f0.f1)) ∧ w'.cell? ⟨(ad156.add ((x6_1).toNat * 4)).block, (ad156.add ((x6_1).toNat * 4)).off + 2, none⟩ = some (.int .i64 ((rd_T52 l1 x6_1).f0.f2)) ∧ w'.cell? ⟨(ad156.add ((x6_1).toNat * 4)).block, (ad156.add ((x6_1).toNat * 4)).off + 3, none⟩ = some (.int .i64 ((rd_T52 l1 x6_1).f1))) (ds := []) (bv_ 20 0) (by kernel_rfl) rfl rfl ⟨hx154_0, hx154_1, hx154_2, hx154_3, (clTr HB.out hw156_0 :), (clTr HB.out hw156_1 :), (clTr HB.out hw156_2 :), (clTr HB.out hw156_3 :)⟩ (fun hHeld => ?_); refine with_tabW spec_l08Sorted.tab6 spec_l08Sorted.bits6 (fun HT_ HW_ => ?_)
            generalize wr.drew = w16 at HO_5 HB hx154_0 hx154_1 hx154_2 hx154_3 hx156_0 hx156_1 hx156_2 hx156_3 hHeld ⊢
            refine pu_ HT_ 0 (some 18) (bv_ 20 1) ?_
            refine pu_ HT_ 1 (some 19) (bv_ 20 3) ?_
            refine pu_ HT_ 2 (some 20) (bv_ 20 7) ?_
            refine pu_ HT_ 3 (some 21) (bv_ 20 15) ?_
            refine pu_ HT_ 4 (some 22) (bv_ 20 31) ?_
            refine pu_ HT_ 5 (some 23) (bv_ 20 63) ?_
            refine pu_ HT_ 6 (some 24) (bv_ 20 127) ?_
            refine pu_ HT_ 7 (some 25) (bv_ 20 255) ?_
            refine pu_ HT_ 8 (some 26) (bv_ 20 511) ?_
            refine pu_ HT_ 11 (some 29) (bv_ 20 2559) ?_
            refine pu_ HT_ 12 (some 30) (bv_ 20 6655) ?_
            refine pu_ HT_ 13 (some 31) (bv_ 20 14847) ?_
            refine pu_ HT_ 14 (some 32) (bv_ 20 31231) ?_
            refine pu_ HT_ 15 (some 33) (bv_ 20 63999) ?_
            refine ta_ HT_ HW_ 9 (some 27) (bv_ 20 64511) hHeld ?_ (hy := by rintro w' ⟨s0, s1, s2, s3, s4, s5, s6, s7⟩; go_simp; with_reducible rfl)
            refine ta_ HT_ HW_ 16 (some 34) (bv_ 20 130047) hHeld ?_ (hy := by rintro w' ⟨s0, s1, s2, s3, s4, s5, s6, s7⟩; go_simp; with_reducible rfl)
            refine one_ (i := 10) (N := some 28) (bv_ 20 131071) rfl rfl (one_of HT_.out (by kernel_rfl)) (by decide) (fun K hK => ?_)
            refine goes_ Try.func77 (by kernel_rfl) rfl #[.int .i64 a0, .agg #[.int .i64 ((rd_T52 x5_1 (ji8)).f0.f0), .int .i64 ((rd_T52 x5_1 (ji8)).f0.f1), .int .i64 ((rd_T52 x5_1 (ji8)).f0.f2)]] (by rfl) rfl rfl (by (try simp only [List.map_toArray, List.map_cons, List.map_nil]); first | done | (simp only [hji8]; rfl) | rfl | (simp only [List.length_drop, List.length_take]; rfl)) ?_
            with_reducible refine (spec_l08Key.calls k2 a0 ((rd_T52 x5_1 (ji8)).f0.f0) ((rd_T52 x5_1 (ji8)).f0.f1) ((rd_T52 x5_1 (ji8)).f0.f2) t155 _ A11.out).mono ?_
            rintro e w17 ⟨rfl, hb⟩
            have HS0_ := (hb.cell (World.block_lt_of_cell? _ _ (hHeld.1))).trans (hHeld.1)
            have HS1_ := (hb.cell (World.block_lt_of_cell? _ _ (hHeld.2.1))).trans (hHeld.2.1)
            have HS2_ := (hb.cell (World.block_lt_of_cell? _ _ (hHeld.2.2.1))).trans (hHeld.2.2.1)
            have HS3_ := (hb.cell (World.block_lt_of_cell? _ _ (hHeld.2.2.2.1))).trans (hHeld.2.2.2.1)
            refine ⟨_, rfl, ?_⟩
            replace HO_5 := Aside0.mk (Kd.R_below (ra_ HO_5.out) hb)
            replace HB := bt_ HB hb
            (try clear hb)
            (try clear hb2)
            (try clear hk)
            (try clear hi)
            refine hK.out _ _ ⟨HS0_, HS1_, HS2_, HS3_, (clTr HB.out hw156_0 :), (clTr HB.out hw156_1 :), (clTr HB.out hw156_2 :), (clTr HB.out hw156_3 :)⟩ (fun hHeld => ?_)
            clear hK K
            refine norm_ (a' := ?_) ?_ ?_
            rotate_left
            ·show Act.put _ (some 28) _ = _
             simp only [Act.put, lstS, lstZ, lstC, i64_w, i32_w]
             rfl
            refine one_ (i := 17) (N := some 35) (bv_ 20 262143) rfl rfl (one_of HT_.out (by kernel_rfl)) (by decide) (fun K hK => ?_)
            refine goes_ Try.func77 (by kernel_rfl) rfl #[.int .i64 a0, .agg #[.int .i64 ((rd_T52 l1 x6_1).f0.f0), .int .i64 ((rd_T52 l1 x6_1).f0.f1), .int .i64 ((rd_T52 l1 x6_1).f0.f2)]] (by rfl) rfl rfl (by (try simp only [List.map_toArray, List.map_cons, List.map_nil]); first | done | rfl | (simp only [List.length_drop, List.length_take]; rfl)) ?_
            with_reducible refine (spec_l08Key.calls k2 a0 ((rd_T52 l1 x6_1).f0.f0) ((rd_T52 l1 x6_1).f0.f1) ((rd_T52 l1 x6_1).f0.f2) t157 _ A14.out).mono ?_
            rintro e w18 ⟨rfl, hb⟩
            have HS0_ := (hb.cell (World.block_lt_of_cell? _ _ (hHeld.1))).trans (hHeld.1)
            have HS1_ := (hb.cell (World.block_lt_of_cell? _ _ (hHeld.2.1))).trans (hHeld.2.1)
            have HS2_ := (hb.cell (World.block_lt_of_cell? _ _ (hHeld.2.2.1))).trans (hHeld.2.2.1)
            have HS3_ := (hb.cell (World.block_lt_of_cell? _ _ (hHeld.2.2.2.1))).trans (hHeld.2.2.2.1)
            refine ⟨_, rfl, ?_⟩
            replace HO_5 := Aside0.mk (Kd.R_below (ra_ HO_5.out) hb)
            replace HB := bt_ HB hb
            (try clear hb)
            (try clear hb2)
            (try clear hk)
            (try clear hi)
            refine hK.out _ _ ⟨HS0_, HS1_, HS2_, HS3_, (clTr HB.out hw156_0 :), (clTr HB.out hw156_1 :), (clTr HB.out hw156_2 :), (clTr HB.out hw156_3 :)⟩ (fun hHeld => ?_)
            clear hK K
            refine norm_ (a' := ?_) ?_ ?_
            rotate_left
            ·show Act.put _ (some 35) _ = _
             simp only [Act.put, lstS, lstZ, lstC, i64_w, i32_w]
             rfl
            refine pu_ HT_ 18 (some 36) (bv_ 20 524287) ?_
            refine pu_ HT_ 19 (some 37) (bv_ 20 1048575) ?_
            refine done_ (done_of HT_.out (by kernel_rfl)) ?_
            try go_wp2
            go_roundg k2
            case measure => have := HK1.out; have := HK2.out; omega
            case rel => exact ⟨(ji8), (by first | rfl | (simp; done) | (simp only [← hji8] <;> (first | rfl | simp)) | (simp [*]; done)), H', ⟨by have := HK1.out; have := HK2.out; omega⟩, ⟨by (with_reducible repeat (first | apply Kd.R_alloc | apply Kd.R_drewN | apply Kd.R_drew)); exact HO_5.out⟩, bw_ HB⟩
           ·rw [if_neg c15] at H
            have c15b0 : decide (t157 < t155) = false := decide_eq_false c15
            clear c15
            obtain ⟨y159, hy159⟩ : ∃ y_ : List (S52), y_ = (([(⟨(⟨(rd_T52 l1 x6_1).f0.f0, (rd_T52 l1 x6_1).f0.f1, (rd_T52 l1 x6_1).f0.f2⟩ : S25), (rd_T52 l1 x6_1).f1⟩ : S52)] : List (S52))) := ⟨_, rfl⟩
            replace H : (if 0 ≤ x7_2 then (if x7_2 ≤ (x5_1.length : Int) then ((some (x5_1.drop (x7_2 : Int).toNat : List (S52))).bind fun y162 => (if y159.length + y162.length < 4398046511104 then ((some (y159 ++ y162 : List (S52))).bind fun y166 => ((some (([] : List (S52)) : List (S52))).bind fun y169 => ((some (x5_1.take (x7_2 : Int).toNat : List (S52))).bind fun y172 => (if y169.length + y172.length < 4398046511104 then ((some (y169 ++ y172 : List (S52))).bind fun y176 => (if y176.length + y166.length < 4398046511104 then (spec_l08Sorted.l0 k2 a0 l1 (y176 ++ y166) (wrap64 (x6_1 + 1))) else (none))) else (none))))) else (none))) else (none)) else (none)) = some r := by first | (rw [hy159]; with_reducible exact H) | (have H2_ := (Option.bind_some _ _).symm.trans H; rw [hy159]; with_reducible exact H2_) | (have H2_ := (Option.bind_some _ _).symm.trans H; with_reducible exact H2_) | with_reducible exact H | (rw [hy159]; exact H) | exact H
            have Ny159 := Aside0.mk hy159
            clear hy159
            by_cases c19 : 0 ≤ x7_2
            ·rw [if_pos c19] at H
             have c19b0 := eq_true c19
             have c19b1 : decide (0 ≤ x7_2) = true := decide_eq_true c19
             clear c19
             by_cases c20 : x7_2 ≤ (x5_1.length : Int)
             ·rw [if_pos c20] at H
              have c20b0 := eq_true c20
              have c20b1 : decide (x7_2 ≤ (x5_1.length : Int)) = true := decide_eq_true c20
              clear c20
              obtain ⟨y162, hy162⟩ : ∃ y_ : List (S52), y_ = (x5_1.drop (x7_2 : Int).toNat) := ⟨_, rfl⟩
              replace H : (if y159.length + y162.length < 4398046511104 then ((some (y159 ++ y162 : List (S52))).bind fun y166 => ((some (([] : List (S52)) : List (S52))).bind fun y169 => ((some (x5_1.take (x7_2 : Int).toNat : List (S52))).bind fun y172 => (if y169.length + y172.length < 4398046511104 then ((some (y169 ++ y172 : List (S52))).bind fun y176 => (if y176.length + y166.length < 4398046511104 then (spec_l08Sorted.l0 k2 a0 l1 (y176 ++ y166) (wrap64 (x6_1 + 1))) else (none))) else (none))))) else (none)) = some r := by first | (rw [hy162]; with_reducible exact H) | (have H2_ := (Option.bind_some _ _).symm.trans H; rw [hy162]; with_reducible exact H2_) | (have H2_ := (Option.bind_some _ _).symm.trans H; with_reducible exact H2_) | with_reducible exact H | (rw [hy162]; exact H) | exact H
              have Ny162 := Aside0.mk hy162
              clear hy162
              by_cases c21 : y159.length + y162.length < 4398046511104
              ·rw [if_pos c21] at H
               have LMc21 := Aside0.mk c21
               clear c21
               obtain ⟨y166, hy166⟩ : ∃ y_ : List (S52), y_ = (y159 ++ y162) := ⟨_, rfl⟩
               replace H : ((some (([] : List (S52)) : List (S52))).bind fun y169 => ((some (x5_1.take (x7_2 : Int).toNat : List (S52))).bind fun y172 => (if y169.length + y172.length < 4398046511104 then ((some (y169 ++ y172 : List (S52))).bind fun y176 => (if y176.length + y166.length < 4398046511104 then (spec_l08Sorted.l0 k2 a0 l1 (y176 ++ y166) (wrap64 (x6_1 + 1))) else (none))) else (none)))) = some r := by first | (rw [hy166]; with_reducible exact H) | (have H2_ := (Option.bind_some _ _).symm.trans H; rw [hy166]; with_reducible exact H2_) | (have H2_ := (Option.bind_some _ _).symm.trans H; with_reducible exact H2_) | with_reducible exact H | (rw [hy166]; exact H) | exact H
               have Ny166 := Aside0.mk hy166
               clear hy166
               obtain ⟨y169, hy169⟩ : ∃ y_ : List (S52), y_ = (([] : List (S52))) := ⟨_, rfl⟩
               replace H : ((some (x5_1.take (x7_2 : Int).toNat : List (S52))).bind fun y172 => (if y169.length + y172.length < 4398046511104 then ((some (y169 ++ y172 : List (S52))).bind fun y176 => (if y176.length + y166.length < 4398046511104 then (spec_l08Sorted.l0 k2 a0 l1 (y176 ++ y166) (wrap64 (x6_1 + 1))) else (none))) else (none))) = some r := by first | (rw [hy169]; with_reducible exact H) | (have H2_ := (Option.bind_some _ _).symm.trans H; rw [hy169]; with_reducible exact H2_) | (have H2_ := (Option.bind_some _ _).symm.trans H; with_reducible exact H2_) | with_reducible exact H | (rw [hy169]; exact H) | exact H
               have Ny169 := Aside0.mk hy169
               clear hy169
               have c22b0 := eq_true (of_decide_eq_true (by first | (with_reducible assumption) | assumption) : 0 ≤ x7_2)
               have c23b0 := eq_true (of_decide_eq_true (by first | (with_reducible assumption) | assumption) : x7_2 ≤ (x5_1.length : Int))
               obtain ⟨y172, hy172⟩ : ∃ y_ : List (S52), y_ = (x5_1.take (x7_2 : Int).toNat) := ⟨_, rfl⟩
               replace H : (if y169.length + y172.length < 4398046511104 then ((some (y169 ++ y172 : List (S52))).bind fun y176 => (if y176.length + y166.length < 4398046511104 then (spec_l08Sorted.l0 k2 a0 l1 (y176 ++ y166) (wrap64 (x6_1 + 1))) else (none))) else (none)) = some r := by first | (rw [hy172]; with_reducible exact H) | (have H2_ := (Option.bind_some _ _).symm.trans H; rw [hy172]; with_reducible exact H2_) | (have H2_ := (Option.bind_some _ _).symm.trans H; with_reducible exact H2_) | with_reducible exact H | (rw [hy172]; exact H) | exact H
               have Ny172 := Aside0.mk hy172
               clear hy172
               by_cases c24 : y169.length + y172.length < 4398046511104
               ·rw [if_pos c24] at H
                have LMc24 := Aside0.mk c24
                clear c24
                obtain ⟨y176, hy176⟩ : ∃ y_ : List (S52), y_ = (y169 ++ y172) := ⟨_, rfl⟩
                replace H : (if y176.length + y166.length < 4398046511104 then (spec_l08Sorted.l0 k2 a0 l1 (y176 ++ y166) (wrap64 (x6_1 + 1))) else (none)) = some r := by first | (rw [hy176]; with_reducible exact H) | (have H2_ := (Option.bind_some _ _).symm.trans H; rw [hy176]; with_reducible exact H2_) | (have H2_ := (Option.bind_some _ _).symm.trans H; with_reducible exact H2_) | with_reducible exact H | (rw [hy176]; exact H) | exact H
                have Ny176 := Aside0.mk hy176
                clear hy176
                by_cases c25 : y176.length + y166.length < 4398046511104
                ·rw [if_pos c25] at H
                 have LMc25 := Aside0.mk c25
                 clear c25
                 obtain ⟨y179, hy179⟩ : ∃ y_ : List (S52), y_ = (y176 ++ y166) := ⟨_, rfl⟩
                 replace H : (spec_l08Sorted.l0 k2 a0 l1 y179 (wrap64 (x6_1 + 1))) = some r := by first | (rw [hy179]; with_reducible exact H) | (have H2_ := (Option.bind_some _ _).symm.trans H; rw [hy179]; with_reducible exact H2_) | (have H2_ := (Option.bind_some _ _).symm.trans H; with_reducible exact H2_) | with_reducible exact H | (rw [hy179]; exact H) | exact H
                 have Ny179 := Aside0.mk hy179
                 clear hy179
                 have H' := Aside0.mk H
                 clear H
                 try go_wp2
                 replace HO_5 := Aside0.mk (Kd.R_drew HO_5.out)
                 replace HB := Aside0.mk (below_drew1 HB.out)
                 have p154 : 0 ≤ ((ji8) : Int) := of_decide_eq_true (by first | (with_reducible assumption) | assumption)
                 have q154 : (ji8) < (x5_1.length : Int) := of_decide_eq_true (by first | (with_reducible assumption) | assumption)
                 obtain ⟨ad154, e154, hx154_0, hx154_1, hx154_2, hx154_3⟩ := at_T52 (Kd.R_reads' HO_5.out).2.2 (ji8) p154 q154
                 cases e154
                 replace p154 := eq_true p154
                 replace q154 := eq_true q154
                 have p156 : 0 ≤ (x6_1 : Int) := of_decide_eq_true (by first | (with_reducible assumption) | assumption)
                 have q156 : x6_1 < (l1.length : Int) := of_decide_eq_true (by first | (with_reducible assumption) | assumption)
                 obtain ⟨ad156, e156, hx156_0, hx156_1, hx156_2, hx156_3⟩ := at_T52 HR1.out x6_1 p156 q156
                 have hw156_3 := hx156_3
                 have hw156_2 := hx156_2
                 have hw156_1 := hx156_1
                 have hw156_0 := hx156_0
                 cases e156
                 replace hx156_0 := clTr HB.out hx156_0
                 replace hx156_1 := clTr HB.out hx156_1
                 replace hx156_2 := clTr HB.out hx156_2
                 replace hx156_3 := clTr HB.out hx156_3
                 replace p156 := eq_true p156
                 replace q156 := eq_true q156
                 refine start_ (n := 20) (S := fun w' => w'.cell? (ad154.add (((ji8)).toNat * 4)) = some (.int .i64 ((rd_T52 x5_1 (ji8)).f0.f0)) ∧ w'.cell? ⟨(ad154.add (((ji8)).toNat * 4)).block, (ad154.add (((ji8)).toNat * 4)).off + 1, none⟩ = some (.int .i64 ((rd_T52 x5_1 (ji8)).f0.f1)) ∧ w'.cell? ⟨(ad154.add (((ji8)).toNat * 4)).block, (ad154.add (((ji8)).toNat * 4)).off + 2, none⟩ = some (.int .i64 ((rd_T52 x5_1 (ji8)).f0.f2)) ∧ w'.cell? ⟨(ad154.add (((ji8)).toNat * 4)).block, (ad154.add (((ji8)).toNat * 4)).off + 3, none⟩ = some (.int .i64 ((rd_T52 x5_1 (ji8)).f1)) ∧ w'.cell? (ad156.add ((x6_1).toNat * 4)) = some (.int .i64 ((rd_T52 l1 x6_1).f0.f0)) ∧ w'.cell? ⟨(ad156.add ((x6_1).toNat * 4)).block, (ad156.add ((x6_1).toNat * 4)).off + 1, none⟩ = some (.int .i64 ((rd_T52 l1 x6_1).f0.f1)) ∧ w'.cell? ⟨(ad156.add ((x6_1).toNat * 4)).block, (ad156.add ((x6_1).toNat * 4)).off + 2, none⟩ = some (.int .i64 ((rd_T52 l1 x6_1).f0.f2)) ∧ w'.cell? ⟨(ad156.add ((x6_1).toNat * 4)).block, (ad156.add ((x6_1).toNat * 4)).off + 3, none⟩ = some (.int .i64 ((rd_T52 l1 x6_1).f1))) (ds := []) (bv_ 20 0) (by kernel_rfl) rfl rfl ⟨hx154_0, hx154_1, hx154_2, hx154_3, (clTr HB.out hw156_0 :), (clTr HB.out hw156_1 :), (clTr HB.out hw156_2 :), (clTr HB.out hw156_3 :)⟩ (fun hHeld => ?_); refine with_tabW spec_l08Sorted.tab6 spec_l08Sorted.bits6 (fun HT_ HW_ => ?_)
                 generalize wr.drew = w26 at HO_5 HB hx154_0 hx154_1 hx154_2 hx154_3 hx156_0 hx156_1 hx156_2 hx156_3 hHeld ⊢
                 refine pu_ HT_ 0 (some 18) (bv_ 20 1) ?_
                 refine pu_ HT_ 1 (some 19) (bv_ 20 3) ?_
                 refine pu_ HT_ 2 (some 20) (bv_ 20 7) ?_
                 refine pu_ HT_ 3 (some 21) (bv_ 20 15) ?_
                 refine pu_ HT_ 4 (some 22) (bv_ 20 31) ?_
                 refine pu_ HT_ 5 (some 23) (bv_ 20 63) ?_
                 refine pu_ HT_ 6 (some 24) (bv_ 20 127) ?_
                 refine pu_ HT_ 7 (some 25) (bv_ 20 255) ?_
                 refine pu_ HT_ 8 (some 26) (bv_ 20 511) ?_
                 refine pu_ HT_ 11 (some 29) (bv_ 20 2559) ?_
                 refine pu_ HT_ 12 (some 30) (bv_ 20 6655) ?_
                 refine pu_ HT_ 13 (some 31) (bv_ 20 14847) ?_
                 refine pu_ HT_ 14 (some 32) (bv_ 20 31231) ?_
                 refine pu_ HT_ 15 (some 33) (bv_ 20 63999) ?_
                 refine ta_ HT_ HW_ 9 (some 27) (bv_ 20 64511) hHeld ?_ (hy := by rintro w' ⟨s0, s1, s2, s3, s4, s5, s6, s7⟩; go_simp; with_reducible rfl)
                 refine ta_ HT_ HW_ 16 (some 34) (bv_ 20 130047) hHeld ?_ (hy := by rintro w' ⟨s0, s1, s2, s3, s4, s5, s6, s7⟩; go_simp; with_reducible rfl)
                 refine one_ (i := 10) (N := some 28) (bv_ 20 131071) rfl rfl (one_of HT_.out (by kernel_rfl)) (by decide) (fun K hK => ?_)
                 refine goes_ Try.func77 (by kernel_rfl) rfl #[.int .i64 a0, .agg #[.int .i64 ((rd_T52 x5_1 (ji8)).f0.f0), .int .i64 ((rd_T52 x5_1 (ji8)).f0.f1), .int .i64 ((rd_T52 x5_1 (ji8)).f0.f2)]] (by rfl) rfl rfl (by (try simp only [List.map_toArray, List.map_cons, List.map_nil]); first | done | (simp only [hji8]; rfl) | rfl | (simp only [List.length_drop, List.length_take]; rfl)) ?_
                 with_reducible refine (spec_l08Key.calls k2 a0 ((rd_T52 x5_1 (ji8)).f0.f0) ((rd_T52 x5_1 (ji8)).f0.f1) ((rd_T52 x5_1 (ji8)).f0.f2) t155 _ A11.out).mono ?_
                 rintro e w27 ⟨rfl, hb⟩
                 have HS0_ := (hb.cell (World.block_lt_of_cell? _ _ (hHeld.1))).trans (hHeld.1)
                 have HS1_ := (hb.cell (World.block_lt_of_cell? _ _ (hHeld.2.1))).trans (hHeld.2.1)
                 have HS2_ := (hb.cell (World.block_lt_of_cell? _ _ (hHeld.2.2.1))).trans (hHeld.2.2.1)
                 have HS3_ := (hb.cell (World.block_lt_of_cell? _ _ (hHeld.2.2.2.1))).trans (hHeld.2.2.2.1)
                 refine ⟨_, rfl, ?_⟩
                 replace HO_5 := Aside0.mk (Kd.R_below (ra_ HO_5.out) hb)
                 replace HB := bt_ HB hb
                 (try clear hb)
                 (try clear hb2)
                 (try clear hk)
                 (try clear hi)
                 refine hK.out _ _ ⟨HS0_, HS1_, HS2_, HS3_, (clTr HB.out hw156_0 :), (clTr HB.out hw156_1 :), (clTr HB.out hw156_2 :), (clTr HB.out hw156_3 :)⟩ (fun hHeld => ?_)
                 clear hK K
                 refine norm_ (a' := ?_) ?_ ?_
                 rotate_left
                 ·show Act.put _ (some 28) _ = _
                  simp only [Act.put, lstS, lstZ, lstC, i64_w, i32_w]
                  rfl
                 refine one_ (i := 17) (N := some 35) (bv_ 20 262143) rfl rfl (one_of HT_.out (by kernel_rfl)) (by decide) (fun K hK => ?_)
                 refine goes_ Try.func77 (by kernel_rfl) rfl #[.int .i64 a0, .agg #[.int .i64 ((rd_T52 l1 x6_1).f0.f0), .int .i64 ((rd_T52 l1 x6_1).f0.f1), .int .i64 ((rd_T52 l1 x6_1).f0.f2)]] (by rfl) rfl rfl (by (try simp only [List.map_toArray, List.map_cons, List.map_nil]); first | done | rfl | (simp only [List.length_drop, List.length_take]; rfl)) ?_
                 with_reducible refine (spec_l08Key.calls k2 a0 ((rd_T52 l1 x6_1).f0.f0) ((rd_T52 l1 x6_1).f0.f1) ((rd_T52 l1 x6_1).f0.f2) t157 _ A14.out).mono ?_
                 rintro e w28 ⟨rfl, hb⟩
                 have HS0_ := (hb.cell (World.block_lt_of_cell? _ _ (hHeld.1))).trans (hHeld.1)
                 have HS1_ := (hb.cell (World.block_lt_of_cell? _ _ (hHeld.2.1))).trans (hHeld.2.1)
                 have HS2_ := (hb.cell (World.block_lt_of_cell? _ _ (hHeld.2.2.1))).trans (hHeld.2.2.1)
                 have HS3_ := (hb.cell (World.block_lt_of_cell? _ _ (hHeld.2.2.2.1))).trans (hHeld.2.2.2.1)
                 refine ⟨_, rfl, ?_⟩
                 replace HO_5 := Aside0.mk (Kd.R_below (ra_ HO_5.out) hb)
                 replace HB := bt_ HB hb
                 (try clear hb)
                 (try clear hb2)
                 (try clear hk)
                 (try clear hi)
                 refine hK.out _ _ ⟨HS0_, HS1_, HS2_, HS3_, (clTr HB.out hw156_0 :), (clTr HB.out hw156_1 :), (clTr HB.out hw156_2 :), (clTr HB.out hw156_3 :)⟩ (fun hHeld => ?_)
                 clear hK K
                 refine norm_ (a' := ?_) ?_ ?_
                 rotate_left
                 ·show Act.put _ (some 35) _ = _
                  simp only [Act.put, lstS, lstZ, lstC, i64_w, i32_w]
                  rfl
                 refine pu_ HT_ 18 (some 36) (bv_ 20 524287) ?_
                 refine pu_ HT_ 19 (some 37) (bv_ 20 1048575) ?_
                 refine done_ (done_of HT_.out (by kernel_rfl)) ?_
                 try go_wp2
                 replace HO_5 := Aside0.mk (Kd.R_drew HO_5.out)
                 replace HB := Aside0.mk (below_drew1 HB.out)
                 have p158 : 0 ≤ (x6_1 : Int) := of_decide_eq_true (by first | (with_reducible assumption) | assumption)
                 have q158 : x6_1 < (l1.length : Int) := of_decide_eq_true (by first | (with_reducible assumption) | assumption)
                 obtain ⟨ad158, e158, hx158_0, hx158_1, hx158_2, hx158_3⟩ := at_T52 HR1.out x6_1 p158 q158
                 have hw158_3 := hx158_3
                 have hw158_2 := hx158_2
                 have hw158_1 := hx158_1
                 have hw158_0 := hx158_0
                 obtain rfl : ad156 = ad158 := (by injection e158)
                 replace hx158_0 := clTr HB.out hx158_0
                 replace hx158_1 := clTr HB.out hx158_1
                 replace hx158_2 := clTr HB.out hx158_2
                 replace hx158_3 := clTr HB.out hx158_3
                 replace p158 := eq_true p158
                 replace q158 := eq_true q158
                 have q30 : (x7_2 : Int) ≤ ((x5_1.length : Int) : Int) := of_decide_eq_true (by first | (with_reducible assumption) | assumption)
                 obtain ⟨i030, hi030, _, hsz30, _⟩ := info_parts info52
                 have hroom30 : x5_1.length ≤ co6 := (Kd.R_reads' HO_5.out).2.1
                 have hC30 : Kd.C k52 _ (some ad154) x5_1.length x5_1 := (Kd.R_reads' HO_5.out).2.2
                 have q030 : (0 : Int) ≤ (x7_2 : Int) := of_decide_eq_true (by first | (with_reducible assumption) | assumption)
                 have hcut30 := cut_from (P := Try.prog) 26 52 .i64 Try.underlying26 hi030 4 hsz30 (some ad154) x5_1.length co6 x7_2 q030 q30
                 have hr30 := Kd.C_drop (m := (x7_2 : Int).toNat) (c := co6) hC30 (by omega) hroom30
                 obtain ⟨A30, hA30⟩ : ∃ A1, A1 = (if co6 = (x7_2 : Int).toNat then (some ad154) else ((some ad154) : Option Addr).map (·.add ((x7_2 : Int).toNat * 4))) := ⟨_, rfl⟩
                 obtain ⟨c30, hc30⟩ : ∃ c1, c1 = co6 - (x7_2 : Int).toNat := ⟨_, rfl⟩
                 have hy30 : y162.length = x5_1.length - (x7_2 : Int).toNat := (by rw [Ny162.out, List.length_drop] <;> omega)
                 rw [show (x5_1).drop (x7_2 : Int).toNat = y162 from Ny162.out.symm] at hr30
                 replace hr30 : Kd.C k52 _ A30 y162.length y162 := (by rw [hA30]; exact hr30)
                 rw [← hy30, ← hA30, ← hc30] at hcut30
                 have HR165 := Aside0.mk hr30
                 have HC165 := Aside0.mk (show y162.length ≤ c30 from by rw [hy30, hc30]; exact Nat.sub_le_sub_right hroom30 _)
                 clear hr30 hC30 hroom30 hi030 hsz30 hc30
                 have KY30 := Aside0.mk hy30
                 have KA30 := Aside0.mk hA30
                 clear hy30 hA30
                 have KL30 := Aside0.mk (show (x7_2 : Int).toNat ≤ x5_1.length from by omega)
                 replace q30 := eq_true q30
                 refine start_ (n := 10) (S := fun w' => w'.cell? (ad156.add ((x6_1).toNat * 4)) = some (.int .i64 ((rd_T52 l1 x6_1).f0.f0)) ∧ w'.cell? ⟨(ad156.add ((x6_1).toNat * 4)).block, (ad156.add ((x6_1).toNat * 4)).off + 1, none⟩ = some (.int .i64 ((rd_T52 l1 x6_1).f0.f1)) ∧ w'.cell? ⟨(ad156.add ((x6_1).toNat * 4)).block, (ad156.add ((x6_1).toNat * 4)).off + 2, none⟩ = some (.int .i64 ((rd_T52 l1 x6_1).f0.f2)) ∧ w'.cell? ⟨(ad156.add ((x6_1).toNat * 4)).block, (ad156.add ((x6_1).toNat * 4)).off + 3, none⟩ = some (.int .i64 ((rd_T52 l1 x6_1).f1))) (ds := []) (bv_ 10 0) (by kernel_rfl) rfl rfl ⟨(clTr HB.out hw158_0 :), (clTr HB.out hw158_1 :), (clTr HB.out hw158_2 :), (clTr HB.out hw158_3 :)⟩ (fun hHeld => ?_); refine with_tabW spec_l08Sorted.tab8 spec_l08Sorted.bits8 (fun HT_ HW_ => ?_)
                 generalize w28.drew = w29 at HO_5 HB HR165 hx158_0 hx158_1 hx158_2 hx158_3 hHeld ⊢
                 refine pu_ HT_ 0 (some 40) (bv_ 10 1) ?_
                 refine pu_ HT_ 1 (some 41) (bv_ 10 3) ?_
                 refine pu_ HT_ 2 (some 42) (bv_ 10 7) ?_
                 refine pu_ HT_ 5 (some 45) (bv_ 10 39) ?_
                 refine pu_ HT_ 6 (some 46) (bv_ 10 103) ?_
                 refine pu_ HT_ 7 (some 47) (bv_ 10 231) ?_
                 refine ta_ HT_ HW_ 3 (some 43) (bv_ 10 239) hHeld ?_ (hy := by rintro w' ⟨s0, s1, s2, s3⟩; go_simp; with_reducible rfl)
                 refine one_ (i := 4) (N := some 44) (bv_ 10 255) rfl rfl (one_of HT_.out (by kernel_rfl)) (by decide) (fun K hK => ?_)
                 refine Kd.R_lit_step k52 _ 52 ?hg (N := 44) ?hd (xs := ([(⟨(⟨(rd_T52 l1 x6_1).f0.f0, (rd_T52 l1 x6_1).f0.f1, (rd_T52 l1 x6_1).f0.f2⟩ : S25), (rd_T52 l1 x6_1).f1⟩ : S52)] : List (S52))) (inner := [.int .i64 ((rd_T52 l1 x6_1).f0.f0), .int .i64 ((rd_T52 l1 x6_1).f0.f1), .int .i64 ((rd_T52 l1 x6_1).f0.f2), .int .i64 ((rd_T52 l1 x6_1).f1)]) (ok := fun _ => True) (okp := fun _ => True) ?hr ?hp (fun _ hk => hk) trivial (Below.refl _ _) (Nat.le_refl _) (by simp) ?_; (case hd => rfl); (case hg => rfl); (case hr => first | (go_simp; done) | (go_simp; rfl)); (case hp => exact (Reps.c4 (show Kd.M k52 _ _ _ (⟨(⟨(rd_T52 l1 x6_1).f0.f0, (rd_T52 l1 x6_1).f0.f1, (rd_T52 l1 x6_1).f0.f2⟩ : S25), (rd_T52 l1 x6_1).f1⟩ : S52) [.int .i64 ((rd_T52 l1 x6_1).f0.f0), .int .i64 ((rd_T52 l1 x6_1).f0.f1), .int .i64 ((rd_T52 l1 x6_1).f0.f2), .int .i64 ((rd_T52 l1 x6_1).f1)] from (k52_mkM _ _ _ (⟨(⟨(rd_T52 l1 x6_1).f0.f0, (rd_T52 l1 x6_1).f0.f1, (rd_T52 l1 x6_1).f0.f2⟩ : S25), (rd_T52 l1 x6_1).f1⟩ : S52) )) (Reps.none _ _)))
                 intro v160 w31 ho32 hb hg_ hnew_
                 clear hg_ hnew_
                 (first | rw [← Ny159.out] at ho32 | (simp only [Int.reduceToNat] at ho32; rw [← Ny159.out] at ho32))
                 have HO161 := Aside0.mk (Kd.R_lower (Kd.R_new' ho32 (Kd.R_lt (ra_ HO_5.out))) (below_size (bw_ HB).out))
                 replace HO_5 := Aside0.mk (Kd.R_elder' (ra_ HO_5.out) (Kd.R_base ho32) hb)
                 replace HR165 := Aside0.mk (Kd.C_below (by repeat (first | (with_reducible exact HR165.out) | (with_reducible refine Kd.C_alloc ?_ _) | (with_reducible refine Kd.C_drewN ?_ _) | (with_reducible refine Kd.C_drew ?_) | exact HR165.out)) hb)
                 replace HB := bt_ HB hb
                 clear hb ho32
                 refine hK.out _ _ ⟨(clTr HB.out hw158_0 :), (clTr HB.out hw158_1 :), (clTr HB.out hw158_2 :), (clTr HB.out hw158_3 :)⟩ (fun hHeld => ?_)
                 clear hK K
                 refine norm_ (a' := ?_) ?_ ?_
                 rotate_left
                 ·show Act.put _ (some 44) _ = _
                  simp only [Act.put, lstS, lstZ, lstC, i64_w, i32_w]
                  rfl
                 refine one_ (i := 8) (N := some 48) (bv_ 10 511) rfl rfl (one_of HT_.out (by kernel_rfl)) (by decide) (fun K hK => ?_)
                 refine Kd.R_append_rows_step k52 (w0 := w) w.heap.size (by rfl) (.tmp 44) (.tmp 47) 26 52 (.agg #[(.int .i64 0), (.int .i64 0), (.int .i64 0), (.int .i64 0)]) 32 rfl Try.underlying26 info52 rfl (by decide) (by omega) v160 y159 y162 _ _ _ (fun k_ => some k_ ≠ (.slice (some ad154) x5_1.length co6 : Value).ownBlock) (fun _ => False) rfl rfl ?aO ?aR (fun _ _ h => h) (fun _ h => h.elim) ?aF ?aB ?aS ?aL ?_
                 (case aR => repeat (first | exact (by repeat (first | (with_reducible exact HR165.out) | (with_reducible refine Kd.C_alloc ?_ _) | (with_reducible refine Kd.C_drewN ?_ _) | (with_reducible refine Kd.C_drew ?_) | exact HR165.out)) | (with_reducible refine Kd.C_alloc ?_ _) | (with_reducible refine Kd.C_drewN ?_ _) | (with_reducible refine Kd.C_drew ?_)))
                 (case aB => exact (bw_ HB).out)
                 (case aF => exact (fun k_ hk => Kd.fresh' (Kd.R_lt (ra_ HO_5.out)) k_ hk))
                 (case aO => exact (by (with_reducible repeat (first | apply Kd.R_alloc | apply Kd.R_drewN | apply Kd.R_drew)); exact Kd.R_mono HO161.out (fun _ hk => hk.2)))
                 (case aS => exact (below_size (bw_ HB).out))
                 (case aL => have := LMc21.out; omega)
                 intro v167 w33 ho hb hg hat
                 rw [← Ny166.out] at ho
                 have n0_ := Aside0.mk (Kd.R_after (ok := (fun _ => True)) (ra_ HO_5.out) hg hat)
                 have n1_ := Aside0.mk (hb)
                 have n2_ := Aside0.mk ((show Kd.C k52 w33 A30 y162.length y162 from by rw [Ny162.out, KA30.out]; exact Kd.C_drop (m := (x7_2 : Int).toNat) (c := co6) ((Kd.R_reads' (Kd.R_after (ok := (fun _ => True)) (ra_ HO_5.out) hg hat)).2.2) KL30.out ((Kd.R_reads' (Kd.R_after (ok := (fun _ => True)) (ra_ HO_5.out) hg hat)).2.1)))
                 have n3_ := Aside0.mk (ho)
                 clear HO_5
                 clear HB
                 clear HR165
                 clear HO161
                 have HO_5 := n0_
                 have HB := n1_
                 have HR165 := n2_
                 have HO168 := n3_
                 clear n0_ n1_ n2_ n3_
                 clear ho hb hg hat
                 refine hK.out _ _ ⟨(clTr HB.out hw158_0 :), (clTr HB.out hw158_1 :), (clTr HB.out hw158_2 :), (clTr HB.out hw158_3 :)⟩ (fun hHeld => ?_)
                 clear hK K
                 refine norm_ (a' := ?_) ?_ ?_
                 rotate_left
                 ·show Act.put _ (some 48) _ = _
                  simp only [Act.put, lstS, lstZ, lstC, i64_w, i32_w]
                  rfl
                 refine pu_ HT_ 9 (some 8) (bv_ 10 1023) ?_
                 refine done_ (done_of HT_.out (by kernel_rfl)) ?_
                 try go_wp2_with (first | ((with_reducible refine gate_dst (N := 49) rfl ?_); refine Kd.R_lit k52 _ 52 ?hg (N := 49) ?hd (xs := ([] : List (S52))) (inner := []) (ok := fun _ => True) (okp := fun _ => True) ?hr ?hp (fun _ hk => hk) trivial (Below.refl _ _) (Nat.le_refl _) (by simp) ?_; (case hd => rfl); (case hg => rfl); (case hr => first | (go_simp; done) | (go_simp; rfl)); (case hp => exact (Reps.none _ _)); intro v170 w34 ho35 hb hg_ hnew_; clear hg_ hnew_; (first | rw [← Ny169.out] at ho35 | (simp only [Int.reduceToNat] at ho35; rw [← Ny169.out] at ho35)); have HO171 := Aside0.mk (Kd.R_lower (Kd.R_new' (Kd.R_new' ho35 (Kd.R_lt (ra_ HO_5.out))) (Kd.R_lt (ra_ HO168.out))) (below_size (bw_ HB).out)); replace HO_5 := Aside0.mk (Kd.R_elder' (ra_ HO_5.out) (Kd.R_base ho35) hb); replace HO168 := Aside0.mk (Kd.R_elder' (ra_ HO168.out) (Kd.R_base ho35) hb); replace HR165 := Aside0.mk (Kd.C_below (by repeat (first | (with_reducible exact HR165.out) | (with_reducible refine Kd.C_alloc ?_ _) | (with_reducible refine Kd.C_drewN ?_ _) | (with_reducible refine Kd.C_drew ?_) | exact HR165.out)) hb); replace HB := bt_ HB hb; clear hb ho35; have q36 : (x7_2 : Int) ≤ ((x5_1.length : Int) : Int) := of_decide_eq_true (by first | (with_reducible assumption) | assumption); obtain ⟨i036, hi036, _, hsz36, _⟩ := info_parts info52; have hroom36 : x5_1.length ≤ co6 := (Kd.R_reads' HO_5.out).2.1; have hC36 : Kd.C k52 _ (some ad154) x5_1.length x5_1 := (Kd.R_reads' HO_5.out).2.2; have hcut36 := cut_to (P := Try.prog) 26 52 .i64 Try.underlying26 hi036 (some ad154) x5_1.length co6 x7_2 (of_decide_eq_true (by first | (with_reducible assumption) | assumption)) q36 hroom36; have hr36 := Kd.C_take (m := (x7_2 : Int).toNat) hC36 (by omega); have hy36 : y172.length = (x7_2 : Int).toNat := (by rw [Ny172.out, List.length_take]; omega); rw [← Ny172.out] at hr36; rw [← hy36] at hcut36; have HR175 := Aside0.mk hr36; have HC175 := Aside0.mk (show y172.length ≤ co6 from by omega); clear hr36 hC36 hroom36 hi036 hsz36; have KY36 := Aside0.mk hy36; clear hy36; have KL36 := Aside0.mk (show (x7_2 : Int).toNat ≤ x5_1.length from by omega); replace q36 := eq_true q36) | ((with_reducible refine gate_builtin (b := .append) (xs := #[.tmp 49, .tmp 52]) rfl ?_); at_builtin; refine Kd.R_append_rows k52 (w0 := w) w.heap.size rfl (.tmp 49) (.tmp 52) 26 52 (.agg #[(.int .i64 0), (.int .i64 0), (.int .i64 0), (.int .i64 0)]) 32 rfl Try.underlying26 info52 rfl (by decide) (by omega) v170 y169 y172 _ _ _ (fun k_ => some k_ ≠ (.slice (some ad154) x5_1.length co6 : Value).ownBlock ∧ some k_ ≠ (v167 : Value).ownBlock) (fun _ => False) rfl rfl ?aO ?aR (fun _ _ h => h) (fun _ h => h.elim) ?aF ?aB ?aS ?aL ?_; (case aR => repeat (first | exact (by repeat (first | (with_reducible exact HR175.out) | (with_reducible refine Kd.C_alloc ?_ _) | (with_reducible refine Kd.C_drewN ?_ _) | (with_reducible refine Kd.C_drew ?_) | exact HR175.out)) | (with_reducible refine Kd.C_alloc ?_ _) | (with_reducible refine Kd.C_drewN ?_ _) | (with_reducible refine Kd.C_drew ?_))); (case aB => exact (bw_ HB).out); (case aF => exact (fun k_ hk => ⟨Kd.fresh' (Kd.R_lt (ra_ HO_5.out)) k_ hk, Kd.fresh' (Kd.R_lt (ra_ HO168.out)) k_ hk⟩)); (case aO => exact (by (with_reducible repeat (first | apply Kd.R_alloc | apply Kd.R_drewN | apply Kd.R_drew)); exact Kd.R_mono HO171.out (fun _ hk => ⟨hk.1.2, hk.2⟩))); (case aS => exact (below_size (bw_ HB).out)); (case aL => have := LMc24.out; omega); intro v177 w37 ho hb hg hat; rw [← Ny176.out] at ho; have n0_ := Aside0.mk (Kd.R_after (ok := (fun k_ => some k_ ≠ (v167 : Value).ownBlock)) (by (with_reducible repeat (first | apply Kd.R_alloc | apply Kd.R_drewN | apply Kd.R_drew)); exact Kd.R_mono HO_5.out (fun _ hk => ⟨hk.1.2, hk.2⟩)) hg hat); have n1_ := Aside0.mk (Kd.R_after (ok := (fun k_ => some k_ ≠ (.slice (some ad154) x5_1.length co6 : Value).ownBlock)) (ra_ HO168.out) hg hat); have n2_ := Aside0.mk (hb); have n3_ := Aside0.mk ((show Kd.C k52 w37 A30 y162.length y162 from by rw [Ny162.out, KA30.out]; exact Kd.C_drop (m := (x7_2 : Int).toNat) (c := co6) ((Kd.R_reads' (Kd.R_after (ok := (fun k_ => some k_ ≠ (v167 : Value).ownBlock)) (by (with_reducible repeat (first | apply Kd.R_alloc | apply Kd.R_drewN | apply Kd.R_drew)); exact Kd.R_mono HO_5.out (fun _ hk => ⟨hk.1.2, hk.2⟩)) hg hat)).2.2) KL30.out ((Kd.R_reads' (Kd.R_after (ok := (fun k_ => some k_ ≠ (v167 : Value).ownBlock)) (by (with_reducible repeat (first | apply Kd.R_alloc | apply Kd.R_drewN | apply Kd.R_drew)); exact Kd.R_mono HO_5.out (fun _ hk => ⟨hk.1.2, hk.2⟩)) hg hat)).2.1))); have n4_ := Aside0.mk ((show Kd.C k52 w37 (some ad154) y172.length y172 from by rw [Ny172.out]; exact Kd.C_take (m := (x7_2 : Int).toNat) ((Kd.R_reads' (Kd.R_after (ok := (fun k_ => some k_ ≠ (v167 : Value).ownBlock)) (by (with_reducible repeat (first | apply Kd.R_alloc | apply Kd.R_drewN | apply Kd.R_drew)); exact Kd.R_mono HO_5.out (fun _ hk => ⟨hk.1.2, hk.2⟩)) hg hat)).2.2) KL36.out)); have n5_ := Aside0.mk (ho); clear HO_5; clear HO168; clear HB; clear HR165; clear HR175; clear HO171; have HO_5 := n0_; have HO168 := n1_; have HB := n2_; have HR165 := n3_; have HR175 := n4_; have HO178 := n5_; clear n0_ n1_ n2_ n3_ n4_ n5_; clear ho hb hg hat; obtain ⟨Ao39, co39, eo39⟩ := Kd.R_slice HO168.out; subst eo39) | ((with_reducible refine gate_builtin (b := .append) (xs := #[.tmp 53, .tmp 54]) rfl ?_); at_builtin; refine Kd.R_append_rows k52 (w0 := w) w.heap.size rfl (.tmp 53) (.tmp 54) 26 52 (.agg #[(.int .i64 0), (.int .i64 0), (.int .i64 0), (.int .i64 0)]) 32 rfl Try.underlying26 info52 rfl (by decide) (by omega) v177 y176 y166 _ _ _ (fun k_ => some k_ ≠ (.slice (some ad154) x5_1.length co6 : Value).ownBlock ∧ some k_ ≠ (.slice Ao39 y166.length co39 : Value).ownBlock) (fun _ => False) rfl rfl ?aO ?aR (fun _ _ h => h) (fun _ h => h.elim) ?aF ?aB ?aS ?aL ?_; (case aR => repeat (first | exact (Kd.R_reads' HO168.out).2.2 | (with_reducible refine Kd.C_alloc ?_ _) | (with_reducible refine Kd.C_drewN ?_ _) | (with_reducible refine Kd.C_drew ?_))); (case aB => exact (bw_ HB).out); (case aF => exact (fun k_ hk => ⟨Kd.fresh' (Kd.R_lt (ra_ HO_5.out)) k_ hk, Kd.fresh' (Kd.R_lt (ra_ HO168.out)) k_ hk⟩)); (case aO => exact (ra_ HO178.out)); (case aS => exact (below_size (bw_ HB).out)); (case aL => have := LMc25.out; omega); intro v180 w38 ho hb hg hat; rw [← Ny179.out] at ho; have n0_ := Aside0.mk (Kd.R_after (ok := (fun k_ => some k_ ≠ (.slice Ao39 y166.length co39 : Value).ownBlock)) (ra_ HO_5.out) hg hat); have n1_ := Aside0.mk (Kd.R_after (ok := (fun k_ => some k_ ≠ (.slice (some ad154) x5_1.length co6 : Value).ownBlock)) (ra_ HO168.out) hg hat); have n2_ := Aside0.mk (hb); have n3_ := Aside0.mk ((show Kd.C k52 w38 A30 y162.length y162 from by rw [Ny162.out, KA30.out]; exact Kd.C_drop (m := (x7_2 : Int).toNat) (c := co6) ((Kd.R_reads' (Kd.R_after (ok := (fun k_ => some k_ ≠ (.slice Ao39 y166.length co39 : Value).ownBlock)) (ra_ HO_5.out) hg hat)).2.2) KL30.out ((Kd.R_reads' (Kd.R_after (ok := (fun k_ => some k_ ≠ (.slice Ao39 y166.length co39 : Value).ownBlock)) (ra_ HO_5.out) hg hat)).2.1))); have n4_ := Aside0.mk ((show Kd.C k52 w38 (some ad154) y172.length y172 from by rw [Ny172.out]; exact Kd.C_take (m := (x7_2 : Int).toNat) ((Kd.R_reads' (Kd.R_after (ok := (fun k_ => some k_ ≠ (.slice Ao39 y166.length co39 : Value).ownBlock)) (ra_ HO_5.out) hg hat)).2.2) KL36.out)); have n5_ := Aside0.mk (ho); clear HO_5; clear HO168; clear HB; clear HR165; clear HR175; clear HO178; have HO_5 := n0_; have HO168 := n1_; have HB := n2_; have HR165 := n3_; have HR175 := n4_; have HO181 := n5_; clear n0_ n1_ n2_ n3_ n4_ n5_; clear ho hb hg hat))
                 go_roundg k2
                 case measure => have := HK1.out; have := HK2.out; omega
                 case rel => exact ⟨(y179), (wrap64 (x6_1 + 1)), (by first | rfl | (simp; done) | (simp [*]; done) | (simp [wrap64]; done)), H', ⟨by have := HK1.out; have := HK2.out; omega⟩, ⟨by (with_reducible repeat (first | apply Kd.R_alloc | apply Kd.R_drewN | apply Kd.R_drew)); exact Kd.R_mono HO181.out (fun _ hk => trivial)⟩, bw_ HB⟩
                ·rw [if_neg c25] at H
                 exact absurd H (by simp)
               ·rw [if_neg c24] at H
                exact absurd H (by simp)
              ·rw [if_neg c21] at H
               exact absurd H (by simp)
             ·rw [if_neg c20] at H
              exact absurd H (by simp)
            ·rw [if_neg c19] at H
             exact absurd H (by simp)
          ·rw [if_neg c13] at H
           exact absurd H (by simp)
         ·rw [if_neg c12] at H
          exact absurd H (by simp)
        ·rw [if_neg c10] at H
         exact absurd H (by simp)
       ·rw [if_neg c9] at H
        exact absurd H (by simp)
      ·rw [if_neg c7] at H
       have c7b0 : decide (0 < x7_2) = false := decide_eq_false c7
       clear c7
       by_cases c40 : 0 ≤ x6_1
       ·rw [if_pos c40] at H
        have c40b0 : decide (0 ≤ x6_1) = true := decide_eq_true c40
        clear c40
        by_cases c41 : x6_1 < (l1.length : Int)
        ·rw [if_pos c41] at H
         have c41b0 : decide (x6_1 < (l1.length : Int)) = true := decide_eq_true c41
         clear c41
         obtain ⟨y183, hy183⟩ : ∃ y_ : List (S52), y_ = (([(⟨(⟨(rd_T52 l1 x6_1).f0.f0, (rd_T52 l1 x6_1).f0.f1, (rd_T52 l1 x6_1).f0.f2⟩ : S25), (rd_T52 l1 x6_1).f1⟩ : S52)] : List (S52))) := ⟨_, rfl⟩
         replace H : (if 0 ≤ x7_2 then (if x7_2 ≤ (x5_1.length : Int) then ((some (x5_1.drop (x7_2 : Int).toNat : List (S52))).bind fun y186 => (if y183.length + y186.length < 4398046511104 then ((some (y183 ++ y186 : List (S52))).bind fun y190 => ((some (([] : List (S52)) : List (S52))).bind fun y193 => ((some (x5_1.take (x7_2 : Int).toNat : List (S52))).bind fun y196 => (if y193.length + y196.length < 4398046511104 then ((some (y193 ++ y196 : List (S52))).bind fun y200 => (if y200.length + y190.length < 4398046511104 then (spec_l08Sorted.l0 k2 a0 l1 (y200 ++ y190) (wrap64 (x6_1 + 1))) else (none))) else (none))))) else (none))) else (none)) else (none)) = some r := by first | (rw [hy183]; with_reducible exact H) | (have H2_ := (Option.bind_some _ _).symm.trans H; rw [hy183]; with_reducible exact H2_) | (have H2_ := (Option.bind_some _ _).symm.trans H; with_reducible exact H2_) | with_reducible exact H | (rw [hy183]; exact H) | exact H
         have Ny183 := Aside0.mk hy183
         clear hy183
         by_cases c42 : 0 ≤ x7_2
         ·rw [if_pos c42] at H
          have c42b0 := eq_true c42
          have c42b1 : decide (0 ≤ x7_2) = true := decide_eq_true c42
          clear c42
          by_cases c43 : x7_2 ≤ (x5_1.length : Int)
          ·rw [if_pos c43] at H
           have c43b0 := eq_true c43
           have c43b1 : decide (x7_2 ≤ (x5_1.length : Int)) = true := decide_eq_true c43
           clear c43
           obtain ⟨y186, hy186⟩ : ∃ y_ : List (S52), y_ = (x5_1.drop (x7_2 : Int).toNat) := ⟨_, rfl⟩
           replace H : (if y183.length + y186.length < 4398046511104 then ((some (y183 ++ y186 : List (S52))).bind fun y190 => ((some (([] : List (S52)) : List (S52))).bind fun y193 => ((some (x5_1.take (x7_2 : Int).toNat : List (S52))).bind fun y196 => (if y193.length + y196.length < 4398046511104 then ((some (y193 ++ y196 : List (S52))).bind fun y200 => (if y200.length + y190.length < 4398046511104 then (spec_l08Sorted.l0 k2 a0 l1 (y200 ++ y190) (wrap64 (x6_1 + 1))) else (none))) else (none))))) else (none)) = some r := by first | (rw [hy186]; with_reducible exact H) | (have H2_ := (Option.bind_some _ _).symm.trans H; rw [hy186]; with_reducible exact H2_) | (have H2_ := (Option.bind_some _ _).symm.trans H; with_reducible exact H2_) | with_reducible exact H | (rw [hy186]; exact H) | exact H
           have Ny186 := Aside0.mk hy186
           clear hy186
           by_cases c44 : y183.length + y186.length < 4398046511104
           ·rw [if_pos c44] at H
            have LMc44 := Aside0.mk c44
            clear c44
            obtain ⟨y190, hy190⟩ : ∃ y_ : List (S52), y_ = (y183 ++ y186) := ⟨_, rfl⟩
            replace H : ((some (([] : List (S52)) : List (S52))).bind fun y193 => ((some (x5_1.take (x7_2 : Int).toNat : List (S52))).bind fun y196 => (if y193.length + y196.length < 4398046511104 then ((some (y193 ++ y196 : List (S52))).bind fun y200 => (if y200.length + y190.length < 4398046511104 then (spec_l08Sorted.l0 k2 a0 l1 (y200 ++ y190) (wrap64 (x6_1 + 1))) else (none))) else (none)))) = some r := by first | (rw [hy190]; with_reducible exact H) | (have H2_ := (Option.bind_some _ _).symm.trans H; rw [hy190]; with_reducible exact H2_) | (have H2_ := (Option.bind_some _ _).symm.trans H; with_reducible exact H2_) | with_reducible exact H | (rw [hy190]; exact H) | exact H
            have Ny190 := Aside0.mk hy190
            clear hy190
            obtain ⟨y193, hy193⟩ : ∃ y_ : List (S52), y_ = (([] : List (S52))) := ⟨_, rfl⟩
            replace H : ((some (x5_1.take (x7_2 : Int).toNat : List (S52))).bind fun y196 => (if y193.length + y196.length < 4398046511104 then ((some (y193 ++ y196 : List (S52))).bind fun y200 => (if y200.length + y190.length < 4398046511104 then (spec_l08Sorted.l0 k2 a0 l1 (y200 ++ y190) (wrap64 (x6_1 + 1))) else (none))) else (none))) = some r := by first | (rw [hy193]; with_reducible exact H) | (have H2_ := (Option.bind_some _ _).symm.trans H; rw [hy193]; with_reducible exact H2_) | (have H2_ := (Option.bind_some _ _).symm.trans H; with_reducible exact H2_) | with_reducible exact H | (rw [hy193]; exact H) | exact H
            have Ny193 := Aside0.mk hy193
            clear hy193
            have c45b0 := eq_true (of_decide_eq_true (by first | (with_reducible assumption) | assumption) : 0 ≤ x7_2)
            have c46b0 := eq_true (of_decide_eq_true (by first | (with_reducible assumption) | assumption) : x7_2 ≤ (x5_1.length : Int))
            obtain ⟨y196, hy196⟩ : ∃ y_ : List (S52), y_ = (x5_1.take (x7_2 : Int).toNat) := ⟨_, rfl⟩
            replace H : (if y193.length + y196.length < 4398046511104 then ((some (y193 ++ y196 : List (S52))).bind fun y200 => (if y200.length + y190.length < 4398046511104 then (spec_l08Sorted.l0 k2 a0 l1 (y200 ++ y190) (wrap64 (x6_1 + 1))) else (none))) else (none)) = some r := by first | (rw [hy196]; with_reducible exact H) | (have H2_ := (Option.bind_some _ _).symm.trans H; rw [hy196]; with_reducible exact H2_) | (have H2_ := (Option.bind_some _ _).symm.trans H; with_reducible exact H2_) | with_reducible exact H | (rw [hy196]; exact H) | exact H
            have Ny196 := Aside0.mk hy196
            clear hy196
            by_cases c47 : y193.length + y196.length < 4398046511104
            ·rw [if_pos c47] at H
             have LMc47 := Aside0.mk c47
             clear c47
             obtain ⟨y200, hy200⟩ : ∃ y_ : List (S52), y_ = (y193 ++ y196) := ⟨_, rfl⟩
             replace H : (if y200.length + y190.length < 4398046511104 then (spec_l08Sorted.l0 k2 a0 l1 (y200 ++ y190) (wrap64 (x6_1 + 1))) else (none)) = some r := by first | (rw [hy200]; with_reducible exact H) | (have H2_ := (Option.bind_some _ _).symm.trans H; rw [hy200]; with_reducible exact H2_) | (have H2_ := (Option.bind_some _ _).symm.trans H; with_reducible exact H2_) | with_reducible exact H | (rw [hy200]; exact H) | exact H
             have Ny200 := Aside0.mk hy200
             clear hy200
             by_cases c48 : y200.length + y190.length < 4398046511104
             ·rw [if_pos c48] at H
              have LMc48 := Aside0.mk c48
              clear c48
              obtain ⟨y203, hy203⟩ : ∃ y_ : List (S52), y_ = (y200 ++ y190) := ⟨_, rfl⟩
              replace H : (spec_l08Sorted.l0 k2 a0 l1 y203 (wrap64 (x6_1 + 1))) = some r := by first | (rw [hy203]; with_reducible exact H) | (have H2_ := (Option.bind_some _ _).symm.trans H; rw [hy203]; with_reducible exact H2_) | (have H2_ := (Option.bind_some _ _).symm.trans H; with_reducible exact H2_) | with_reducible exact H | (rw [hy203]; exact H) | exact H
              have Ny203 := Aside0.mk hy203
              clear hy203
              have H' := Aside0.mk H
              clear H
              try go_wp2
              replace HO_5 := Aside0.mk (Kd.R_drew HO_5.out)
              replace HB := Aside0.mk (below_drew1 HB.out)
              refine start_ (n := 20) (S := fun w' => True) (ds := []) (bv_ 20 0) (by kernel_rfl) rfl rfl trivial (fun hHeld => ?_); refine with_tabW spec_l08Sorted.tab6 spec_l08Sorted.bits6 (fun HT_ HW_ => ?_)
              generalize wr.drew = w49 at HO_5 HB hHeld ⊢
              refine pu_ HT_ 0 (some 18) (bv_ 20 1) ?_
              refine pu_ HT_ 1 (some 19) (bv_ 20 3) ?_
              refine pu_ HT_ 2 (some 20) (bv_ 20 7) ?_
              refine pv_ HT_ 3 (some 21) (bv_ 20 15) ?_
              refine pv_ HT_ 4 (some 22) (bv_ 20 31) ?_
              refine pv_ HT_ 5 (some 23) (bv_ 20 63) ?_
              refine pv_ HT_ 6 (some 24) (bv_ 20 127) ?_
              refine pv_ HT_ 7 (some 25) (bv_ 20 255) ?_
              refine pv_ HT_ 8 (some 26) (bv_ 20 511) ?_
              refine pv_ HT_ 9 (some 27) (bv_ 20 1023) ?_
              refine pv_ HT_ 10 (some 28) (bv_ 20 2047) ?_
              refine pv_ HT_ 11 (some 29) (bv_ 20 4095) ?_
              refine pv_ HT_ 12 (some 30) (bv_ 20 8191) ?_
              refine pv_ HT_ 13 (some 31) (bv_ 20 16383) ?_
              refine pv_ HT_ 14 (some 32) (bv_ 20 32767) ?_
              refine pv_ HT_ 15 (some 33) (bv_ 20 65535) ?_
              refine pv_ HT_ 16 (some 34) (bv_ 20 131071) ?_
              refine pv_ HT_ 17 (some 35) (bv_ 20 262143) ?_
              refine pv_ HT_ 18 (some 36) (bv_ 20 524287) ?_
              refine pu_ HT_ 19 (some 37) (bv_ 20 1048575) ?_
              refine done_ (done_of HT_.out (by kernel_rfl)) ?_
              try go_wp2
              replace HO_5 := Aside0.mk (Kd.R_drew HO_5.out)
              replace HB := Aside0.mk (below_drew1 HB.out)
              have p182 : 0 ≤ (x6_1 : Int) := of_decide_eq_true (by first | (with_reducible assumption) | assumption)
              have q182 : x6_1 < (l1.length : Int) := of_decide_eq_true (by first | (with_reducible assumption) | assumption)
              obtain ⟨ad182, e182, hx182_0, hx182_1, hx182_2, hx182_3⟩ := at_T52 HR1.out x6_1 p182 q182
              have hw182_3 := hx182_3
              have hw182_2 := hx182_2
              have hw182_1 := hx182_1
              have hw182_0 := hx182_0
              cases e182
              replace hx182_0 := clTr HB.out hx182_0
              replace hx182_1 := clTr HB.out hx182_1
              replace hx182_2 := clTr HB.out hx182_2
              replace hx182_3 := clTr HB.out hx182_3
              replace p182 := eq_true p182
              replace q182 := eq_true q182
              have q51 : (x7_2 : Int) ≤ ((x5_1.length : Int) : Int) := of_decide_eq_true (by first | (with_reducible assumption) | assumption)
              obtain ⟨i051, hi051, _, hsz51, _⟩ := info_parts info52
              have hroom51 : x5_1.length ≤ co6 := (Kd.R_reads' HO_5.out).2.1
              have hC51 : Kd.C k52 _ Ao6 x5_1.length x5_1 := (Kd.R_reads' HO_5.out).2.2
              have q051 : (0 : Int) ≤ (x7_2 : Int) := of_decide_eq_true (by first | (with_reducible assumption) | assumption)
              have hcut51 := cut_from (P := Try.prog) 26 52 .i64 Try.underlying26 hi051 4 hsz51 Ao6 x5_1.length co6 x7_2 q051 q51
              have hr51 := Kd.C_drop (m := (x7_2 : Int).toNat) (c := co6) hC51 (by omega) hroom51
              obtain ⟨A51, hA51⟩ : ∃ A1, A1 = (if co6 = (x7_2 : Int).toNat then Ao6 else (Ao6 : Option Addr).map (·.add ((x7_2 : Int).toNat * 4))) := ⟨_, rfl⟩
              obtain ⟨c51, hc51⟩ : ∃ c1, c1 = co6 - (x7_2 : Int).toNat := ⟨_, rfl⟩
              have hy51 : y186.length = x5_1.length - (x7_2 : Int).toNat := (by rw [Ny186.out, List.length_drop] <;> omega)
              rw [show (x5_1).drop (x7_2 : Int).toNat = y186 from Ny186.out.symm] at hr51
              replace hr51 : Kd.C k52 _ A51 y186.length y186 := (by rw [hA51]; exact hr51)
              rw [← hy51, ← hA51, ← hc51] at hcut51
              have HR189 := Aside0.mk hr51
              have HC189 := Aside0.mk (show y186.length ≤ c51 from by rw [hy51, hc51]; exact Nat.sub_le_sub_right hroom51 _)
              clear hr51 hC51 hroom51 hi051 hsz51 hc51
              have KY51 := Aside0.mk hy51
              have KA51 := Aside0.mk hA51
              clear hy51 hA51
              have KL51 := Aside0.mk (show (x7_2 : Int).toNat ≤ x5_1.length from by omega)
              replace q51 := eq_true q51
              refine start_ (n := 10) (S := fun w' => w'.cell? (ad182.add ((x6_1).toNat * 4)) = some (.int .i64 ((rd_T52 l1 x6_1).f0.f0)) ∧ w'.cell? ⟨(ad182.add ((x6_1).toNat * 4)).block, (ad182.add ((x6_1).toNat * 4)).off + 1, none⟩ = some (.int .i64 ((rd_T52 l1 x6_1).f0.f1)) ∧ w'.cell? ⟨(ad182.add ((x6_1).toNat * 4)).block, (ad182.add ((x6_1).toNat * 4)).off + 2, none⟩ = some (.int .i64 ((rd_T52 l1 x6_1).f0.f2)) ∧ w'.cell? ⟨(ad182.add ((x6_1).toNat * 4)).block, (ad182.add ((x6_1).toNat * 4)).off + 3, none⟩ = some (.int .i64 ((rd_T52 l1 x6_1).f1))) (ds := []) (bv_ 10 0) (by kernel_rfl) rfl rfl ⟨(clTr HB.out hw182_0 :), (clTr HB.out hw182_1 :), (clTr HB.out hw182_2 :), (clTr HB.out hw182_3 :)⟩ (fun hHeld => ?_); refine with_tabW spec_l08Sorted.tab8 spec_l08Sorted.bits8 (fun HT_ HW_ => ?_)
              generalize w49.drew = w50 at HO_5 HB HR189 hx182_0 hx182_1 hx182_2 hx182_3 hHeld ⊢
              refine pu_ HT_ 0 (some 40) (bv_ 10 1) ?_
              refine pu_ HT_ 1 (some 41) (bv_ 10 3) ?_
              refine pu_ HT_ 2 (some 42) (bv_ 10 7) ?_
              refine pu_ HT_ 5 (some 45) (bv_ 10 39) ?_
              refine pu_ HT_ 6 (some 46) (bv_ 10 103) ?_
              refine pu_ HT_ 7 (some 47) (bv_ 10 231) ?_
              refine ta_ HT_ HW_ 3 (some 43) (bv_ 10 239) hHeld ?_ (hy := by rintro w' ⟨s0, s1, s2, s3⟩; go_simp; with_reducible rfl)
              refine one_ (i := 4) (N := some 44) (bv_ 10 255) rfl rfl (one_of HT_.out (by kernel_rfl)) (by decide) (fun K hK => ?_)
              refine Kd.R_lit_step k52 _ 52 ?hg (N := 44) ?hd (xs := ([(⟨(⟨(rd_T52 l1 x6_1).f0.f0, (rd_T52 l1 x6_1).f0.f1, (rd_T52 l1 x6_1).f0.f2⟩ : S25), (rd_T52 l1 x6_1).f1⟩ : S52)] : List (S52))) (inner := [.int .i64 ((rd_T52 l1 x6_1).f0.f0), .int .i64 ((rd_T52 l1 x6_1).f0.f1), .int .i64 ((rd_T52 l1 x6_1).f0.f2), .int .i64 ((rd_T52 l1 x6_1).f1)]) (ok := fun _ => True) (okp := fun _ => True) ?hr ?hp (fun _ hk => hk) trivial (Below.refl _ _) (Nat.le_refl _) (by simp) ?_; (case hd => rfl); (case hg => rfl); (case hr => first | (go_simp; done) | (go_simp; rfl)); (case hp => exact (Reps.c4 (show Kd.M k52 _ _ _ (⟨(⟨(rd_T52 l1 x6_1).f0.f0, (rd_T52 l1 x6_1).f0.f1, (rd_T52 l1 x6_1).f0.f2⟩ : S25), (rd_T52 l1 x6_1).f1⟩ : S52) [.int .i64 ((rd_T52 l1 x6_1).f0.f0), .int .i64 ((rd_T52 l1 x6_1).f0.f1), .int .i64 ((rd_T52 l1 x6_1).f0.f2), .int .i64 ((rd_T52 l1 x6_1).f1)] from (k52_mkM _ _ _ (⟨(⟨(rd_T52 l1 x6_1).f0.f0, (rd_T52 l1 x6_1).f0.f1, (rd_T52 l1 x6_1).f0.f2⟩ : S25), (rd_T52 l1 x6_1).f1⟩ : S52) )) (Reps.none _ _)))
              intro v184 w52 ho53 hb hg_ hnew_
              clear hg_ hnew_
              (first | rw [← Ny183.out] at ho53 | (simp only [Int.reduceToNat] at ho53; rw [← Ny183.out] at ho53))
              have HO185 := Aside0.mk (Kd.R_lower (Kd.R_new' ho53 (Kd.R_lt (ra_ HO_5.out))) (below_size (bw_ HB).out))
              replace HO_5 := Aside0.mk (Kd.R_elder' (ra_ HO_5.out) (Kd.R_base ho53) hb)
              replace HR189 := Aside0.mk (Kd.C_below (by repeat (first | (with_reducible exact HR189.out) | (with_reducible refine Kd.C_alloc ?_ _) | (with_reducible refine Kd.C_drewN ?_ _) | (with_reducible refine Kd.C_drew ?_) | exact HR189.out)) hb)
              replace HB := bt_ HB hb
              clear hb ho53
              refine hK.out _ _ ⟨(clTr HB.out hw182_0 :), (clTr HB.out hw182_1 :), (clTr HB.out hw182_2 :), (clTr HB.out hw182_3 :)⟩ (fun hHeld => ?_)
              clear hK K
              refine norm_ (a' := ?_) ?_ ?_
              rotate_left
              ·show Act.put _ (some 44) _ = _
               simp only [Act.put, lstS, lstZ, lstC, i64_w, i32_w]
               rfl
              refine one_ (i := 8) (N := some 48) (bv_ 10 511) rfl rfl (one_of HT_.out (by kernel_rfl)) (by decide) (fun K hK => ?_)
              refine Kd.R_append_rows_step k52 (w0 := w) w.heap.size (by rfl) (.tmp 44) (.tmp 47) 26 52 (.agg #[(.int .i64 0), (.int .i64 0), (.int .i64 0), (.int .i64 0)]) 32 rfl Try.underlying26 info52 rfl (by decide) (by omega) v184 y183 y186 _ _ _ (fun k_ => some k_ ≠ (.slice Ao6 x5_1.length co6 : Value).ownBlock) (fun _ => False) rfl rfl ?aO ?aR (fun _ _ h => h) (fun _ h => h.elim) ?aF ?aB ?aS ?aL ?_
              (case aR => repeat (first | exact (by repeat (first | (with_reducible exact HR189.out) | (with_reducible refine Kd.C_alloc ?_ _) | (with_reducible refine Kd.C_drewN ?_ _) | (with_reducible refine Kd.C_drew ?_) | exact HR189.out)) | (with_reducible refine Kd.C_alloc ?_ _) | (with_reducible refine Kd.C_drewN ?_ _) | (with_reducible refine Kd.C_drew ?_)))
              (case aB => exact (bw_ HB).out)
              (case aF => exact (fun k_ hk => Kd.fresh' (Kd.R_lt (ra_ HO_5.out)) k_ hk))
              (case aO => exact (by (with_reducible repeat (first | apply Kd.R_alloc | apply Kd.R_drewN | apply Kd.R_drew)); exact Kd.R_mono HO185.out (fun _ hk => hk.2)))
              (case aS => exact (below_size (bw_ HB).out))
              (case aL => have := LMc44.out; omega)
              intro v191 w54 ho hb hg hat
              rw [← Ny190.out] at ho
              have n0_ := Aside0.mk (Kd.R_after (ok := (fun _ => True)) (ra_ HO_5.out) hg hat)
              have n1_ := Aside0.mk (hb)
              have n2_ := Aside0.mk ((show Kd.C k52 w54 A51 y186.length y186 from by rw [Ny186.out, KA51.out]; exact Kd.C_drop (m := (x7_2 : Int).toNat) (c := co6) ((Kd.R_reads' (Kd.R_after (ok := (fun _ => True)) (ra_ HO_5.out) hg hat)).2.2) KL51.out ((Kd.R_reads' (Kd.R_after (ok := (fun _ => True)) (ra_ HO_5.out) hg hat)).2.1)))
              have n3_ := Aside0.mk (ho)
              clear HO_5
              clear HB
              clear HR189
              clear HO185
              have HO_5 := n0_
              have HB := n1_
              have HR189 := n2_
              have HO192 := n3_
              clear n0_ n1_ n2_ n3_
              clear ho hb hg hat
              refine hK.out _ _ ⟨(clTr HB.out hw182_0 :), (clTr HB.out hw182_1 :), (clTr HB.out hw182_2 :), (clTr HB.out hw182_3 :)⟩ (fun hHeld => ?_)
              clear hK K
              refine norm_ (a' := ?_) ?_ ?_
              rotate_left
              ·show Act.put _ (some 48) _ = _
               simp only [Act.put, lstS, lstZ, lstC, i64_w, i32_w]
               rfl
              refine pu_ HT_ 9 (some 8) (bv_ 10 1023) ?_
              refine done_ (done_of HT_.out (by kernel_rfl)) ?_
              try go_wp2_with (first | ((with_reducible refine gate_dst (N := 49) rfl ?_); refine Kd.R_lit k52 _ 52 ?hg (N := 49) ?hd (xs := ([] : List (S52))) (inner := []) (ok := fun _ => True) (okp := fun _ => True) ?hr ?hp (fun _ hk => hk) trivial (Below.refl _ _) (Nat.le_refl _) (by simp) ?_; (case hd => rfl); (case hg => rfl); (case hr => first | (go_simp; done) | (go_simp; rfl)); (case hp => exact (Reps.none _ _)); intro v194 w55 ho56 hb hg_ hnew_; clear hg_ hnew_; (first | rw [← Ny193.out] at ho56 | (simp only [Int.reduceToNat] at ho56; rw [← Ny193.out] at ho56)); have HO195 := Aside0.mk (Kd.R_lower (Kd.R_new' (Kd.R_new' ho56 (Kd.R_lt (ra_ HO_5.out))) (Kd.R_lt (ra_ HO192.out))) (below_size (bw_ HB).out)); replace HO_5 := Aside0.mk (Kd.R_elder' (ra_ HO_5.out) (Kd.R_base ho56) hb); replace HO192 := Aside0.mk (Kd.R_elder' (ra_ HO192.out) (Kd.R_base ho56) hb); replace HR189 := Aside0.mk (Kd.C_below (by repeat (first | (with_reducible exact HR189.out) | (with_reducible refine Kd.C_alloc ?_ _) | (with_reducible refine Kd.C_drewN ?_ _) | (with_reducible refine Kd.C_drew ?_) | exact HR189.out)) hb); replace HB := bt_ HB hb; clear hb ho56; have q57 : (x7_2 : Int) ≤ ((x5_1.length : Int) : Int) := of_decide_eq_true (by first | (with_reducible assumption) | assumption); obtain ⟨i057, hi057, _, hsz57, _⟩ := info_parts info52; have hroom57 : x5_1.length ≤ co6 := (Kd.R_reads' HO_5.out).2.1; have hC57 : Kd.C k52 _ Ao6 x5_1.length x5_1 := (Kd.R_reads' HO_5.out).2.2; have hcut57 := cut_to (P := Try.prog) 26 52 .i64 Try.underlying26 hi057 Ao6 x5_1.length co6 x7_2 (of_decide_eq_true (by first | (with_reducible assumption) | assumption)) q57 hroom57; have hr57 := Kd.C_take (m := (x7_2 : Int).toNat) hC57 (by omega); have hy57 : y196.length = (x7_2 : Int).toNat := (by rw [Ny196.out, List.length_take]; omega); rw [← Ny196.out] at hr57; rw [← hy57] at hcut57; have HR199 := Aside0.mk hr57; have HC199 := Aside0.mk (show y196.length ≤ co6 from by omega); clear hr57 hC57 hroom57 hi057 hsz57; have KY57 := Aside0.mk hy57; clear hy57; have KL57 := Aside0.mk (show (x7_2 : Int).toNat ≤ x5_1.length from by omega); replace q57 := eq_true q57) | ((with_reducible refine gate_builtin (b := .append) (xs := #[.tmp 49, .tmp 52]) rfl ?_); at_builtin; refine Kd.R_append_rows k52 (w0 := w) w.heap.size rfl (.tmp 49) (.tmp 52) 26 52 (.agg #[(.int .i64 0), (.int .i64 0), (.int .i64 0), (.int .i64 0)]) 32 rfl Try.underlying26 info52 rfl (by decide) (by omega) v194 y193 y196 _ _ _ (fun k_ => some k_ ≠ (.slice Ao6 x5_1.length co6 : Value).ownBlock ∧ some k_ ≠ (v191 : Value).ownBlock) (fun _ => False) rfl rfl ?aO ?aR (fun _ _ h => h) (fun _ h => h.elim) ?aF ?aB ?aS ?aL ?_; (case aR => repeat (first | exact (by repeat (first | (with_reducible exact HR199.out) | (with_reducible refine Kd.C_alloc ?_ _) | (with_reducible refine Kd.C_drewN ?_ _) | (with_reducible refine Kd.C_drew ?_) | exact HR199.out)) | (with_reducible refine Kd.C_alloc ?_ _) | (with_reducible refine Kd.C_drewN ?_ _) | (with_reducible refine Kd.C_drew ?_))); (case aB => exact (bw_ HB).out); (case aF => exact (fun k_ hk => ⟨Kd.fresh' (Kd.R_lt (ra_ HO_5.out)) k_ hk, Kd.fresh' (Kd.R_lt (ra_ HO192.out)) k_ hk⟩)); (case aO => exact (by (with_reducible repeat (first | apply Kd.R_alloc | apply Kd.R_drewN | apply Kd.R_drew)); exact Kd.R_mono HO195.out (fun _ hk => ⟨hk.1.2, hk.2⟩))); (case aS => exact (below_size (bw_ HB).out)); (case aL => have := LMc47.out; omega); intro v201 w58 ho hb hg hat; rw [← Ny200.out] at ho; have n0_ := Aside0.mk (Kd.R_after (ok := (fun k_ => some k_ ≠ (v191 : Value).ownBlock)) (by (with_reducible repeat (first | apply Kd.R_alloc | apply Kd.R_drewN | apply Kd.R_drew)); exact Kd.R_mono HO_5.out (fun _ hk => ⟨hk.1.2, hk.2⟩)) hg hat); have n1_ := Aside0.mk (Kd.R_after (ok := (fun k_ => some k_ ≠ (.slice Ao6 x5_1.length co6 : Value).ownBlock)) (ra_ HO192.out) hg hat); have n2_ := Aside0.mk (hb); have n3_ := Aside0.mk ((show Kd.C k52 w58 A51 y186.length y186 from by rw [Ny186.out, KA51.out]; exact Kd.C_drop (m := (x7_2 : Int).toNat) (c := co6) ((Kd.R_reads' (Kd.R_after (ok := (fun k_ => some k_ ≠ (v191 : Value).ownBlock)) (by (with_reducible repeat (first | apply Kd.R_alloc | apply Kd.R_drewN | apply Kd.R_drew)); exact Kd.R_mono HO_5.out (fun _ hk => ⟨hk.1.2, hk.2⟩)) hg hat)).2.2) KL51.out ((Kd.R_reads' (Kd.R_after (ok := (fun k_ => some k_ ≠ (v191 : Value).ownBlock)) (by (with_reducible repeat (first | apply Kd.R_alloc | apply Kd.R_drewN | apply Kd.R_drew)); exact Kd.R_mono HO_5.out (fun _ hk => ⟨hk.1.2, hk.2⟩)) hg hat)).2.1))); have n4_ := Aside0.mk ((show Kd.C k52 w58 Ao6 y196.length y196 from by rw [Ny196.out]; exact Kd.C_take (m := (x7_2 : Int).toNat) ((Kd.R_reads' (Kd.R_after (ok := (fun k_ => some k_ ≠ (v191 : Value).ownBlock)) (by (with_reducible repeat (first | apply Kd.R_alloc | apply Kd.R_drewN | apply Kd.R_drew)); exact Kd.R_mono HO_5.out (fun _ hk => ⟨hk.1.2, hk.2⟩)) hg hat)).2.2) KL57.out)); have n5_ := Aside0.mk (ho); clear HO_5; clear HO192; clear HB; clear HR189; clear HR199; clear HO195; have HO_5 := n0_; have HO192 := n1_; have HB := n2_; have HR189 := n3_; have HR199 := n4_; have HO202 := n5_; clear n0_ n1_ n2_ n3_ n4_ n5_; clear ho hb hg hat; obtain ⟨Ao60, co60, eo60⟩ := Kd.R_slice HO192.out; subst eo60) | ((with_reducible refine gate_builtin (b := .append) (xs := #[.tmp 53, .tmp 54]) rfl ?_); at_builtin; refine Kd.R_append_rows k52 (w0 := w) w.heap.size rfl (.tmp 53) (.tmp 54) 26 52 (.agg #[(.int .i64 0), (.int .i64 0), (.int .i64 0), (.int .i64 0)]) 32 rfl Try.underlying26 info52 rfl (by decide) (by omega) v201 y200 y190 _ _ _ (fun k_ => some k_ ≠ (.slice Ao6 x5_1.length co6 : Value).ownBlock ∧ some k_ ≠ (.slice Ao60 y190.length co60 : Value).ownBlock) (fun _ => False) rfl rfl ?aO ?aR (fun _ _ h => h) (fun _ h => h.elim) ?aF ?aB ?aS ?aL ?_; (case aR => repeat (first | exact (Kd.R_reads' HO192.out).2.2 | (with_reducible refine Kd.C_alloc ?_ _) | (with_reducible refine Kd.C_drewN ?_ _) | (with_reducible refine Kd.C_drew ?_))); (case aB => exact (bw_ HB).out); (case aF => exact (fun k_ hk => ⟨Kd.fresh' (Kd.R_lt (ra_ HO_5.out)) k_ hk, Kd.fresh' (Kd.R_lt (ra_ HO192.out)) k_ hk⟩)); (case aO => exact (ra_ HO202.out)); (case aS => exact (below_size (bw_ HB).out)); (case aL => have := LMc48.out; omega); intro v204 w59 ho hb hg hat; rw [← Ny203.out] at ho; have n0_ := Aside0.mk (Kd.R_after (ok := (fun k_ => some k_ ≠ (.slice Ao60 y190.length co60 : Value).ownBlock)) (ra_ HO_5.out) hg hat); have n1_ := Aside0.mk (Kd.R_after (ok := (fun k_ => some k_ ≠ (.slice Ao6 x5_1.length co6 : Value).ownBlock)) (ra_ HO192.out) hg hat); have n2_ := Aside0.mk (hb); have n3_ := Aside0.mk ((show Kd.C k52 w59 A51 y186.length y186 from by rw [Ny186.out, KA51.out]; exact Kd.C_drop (m := (x7_2 : Int).toNat) (c := co6) ((Kd.R_reads' (Kd.R_after (ok := (fun k_ => some k_ ≠ (.slice Ao60 y190.length co60 : Value).ownBlock)) (ra_ HO_5.out) hg hat)).2.2) KL51.out ((Kd.R_reads' (Kd.R_after (ok := (fun k_ => some k_ ≠ (.slice Ao60 y190.length co60 : Value).ownBlock)) (ra_ HO_5.out) hg hat)).2.1))); have n4_ := Aside0.mk ((show Kd.C k52 w59 Ao6 y196.length y196 from by rw [Ny196.out]; exact Kd.C_take (m := (x7_2 : Int).toNat) ((Kd.R_reads' (Kd.R_after (ok := (fun k_ => some k_ ≠ (.slice Ao60 y190.length co60 : Value).ownBlock)) (ra_ HO_5.out) hg hat)).2.2) KL57.out)); have n5_ := Aside0.mk (ho); clear HO_5; clear HO192; clear HB; clear HR189; clear HR199; clear HO202; have HO_5 := n0_; have HO192 := n1_; have HB := n2_; have HR189 := n3_; have HR199 := n4_; have HO205 := n5_; clear n0_ n1_ n2_ n3_ n4_ n5_; clear ho hb hg hat))
              go_roundg k2
              case measure => have := HK1.out; have := HK2.out; omega
              case rel => exact ⟨(y203), (wrap64 (x6_1 + 1)), (by first | rfl | (simp; done) | (simp [*]; done) | (simp [wrap64]; done)), H', ⟨by have := HK1.out; have := HK2.out; omega⟩, ⟨by (with_reducible repeat (first | apply Kd.R_alloc | apply Kd.R_drewN | apply Kd.R_drew)); exact Kd.R_mono HO205.out (fun _ hk => trivial)⟩, bw_ HB⟩
             ·rw [if_neg c48] at H
              exact absurd H (by simp)
            ·rw [if_neg c47] at H
             exact absurd H (by simp)
           ·rw [if_neg c44] at H
            exact absurd H (by simp)
          ·rw [if_neg c43] at H
           exact absurd H (by simp)
         ·rw [if_neg c42] at H
          exact absurd H (by simp)
        ·rw [if_neg c41] at H
         exact absurd H (by simp)
       ·rw [if_neg c40] at H
        exact absurd H (by simp)
   ·rw [if_neg c5] at H
    have c5b0 : decide (x6_1 < (l1.length : Int)) = false := decide_eq_false c5
    clear c5
    obtain rfl := Option.some.inj H
    go_wp2
    go_ret
    exact ⟨_, by first | rfl | (simp [errW_none, errW_some] <;> rfl) | (simp [*, errW_none, errW_some] <;> rfl), by (with_reducible repeat (first | apply Kd.R_alloc | apply Kd.R_drewN | apply Kd.R_drew)); exact HO_5.out, by repeat (first | (with_reducible first | exact HB.out | apply below_alloc | apply pw_below_drewN | apply below_drew1) | exact HB.out)⟩
end Go.Proofs.Ytbldceikdajdlaa.QC
