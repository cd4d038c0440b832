import Derived.Test.YtdfcoebadjhjlaaQIx5
import Derived.Test.YtdfcoebadjhjlaaQIx27
namespace Go.Proofs.Ytdfcoebadjhjlaa.QI
open Go.RowKit Go.Proofs.YtdfcoebadjhjlaaW.PrintWords Go.Proofs.YtdfcoebadjhjlaaW.PrintLast Go.Proofs.YtdfcoebadjhjlaaW.PrintMore
attribute [local go_sem] isSome_setCell max2_int min2_int max_two min_two max_three min_three max_four min_four
set_option linter.unusedVariables false
set_option linter.unusedSimpArgs false

/-! ### spec_l08Sorted: function 61 -/
mutual
def spec_l08Sorted.l0 : Nat → Int → List (S72) → List (S72) → Int → Option ((List (S72)))
 | 0, _, _, _, _ => none
 | k + 1, x0, x1, x5, x6 => if x6 < (x1.length : Int) then (spec_l08Sorted.l1 k x0 x1 x5 x6 (x5.length : Int)) else (some x5)
def spec_l08Sorted.l1 : Nat → Int → List (S72) → List (S72) → Int → Int → Option ((List (S72)))
 | 0, _, _, _, _, _ => none
 | k + 1, x0, x1, x5, x6, x7 => if x7 > 0 then (if 0 ≤ (wrap64 (x7 - 1)) then (if (wrap64 (x7 - 1)) < (x5.length : Int) then ((spec_l08Key.f k x0 ((rd_T72 x5 (wrap64 (x7 - 1))).f0.f0) ((rd_T72 x5 (wrap64 (x7 - 1))).f0.f1) ((rd_T72 x5 (wrap64 (x7 - 1))).f0.f2)).bind fun t198 => (if 0 ≤ x6 then (if x6 < (x1.length : Int) then ((spec_l08Key.f k x0 ((rd_T72 x1 x6).f0.f0) ((rd_T72 x1 x6).f0.f1) ((rd_T72 x1 x6).f0.f2)).bind fun t200 => (if t198 > t200 then (spec_l08Sorted.l1 k x0 x1 x5 x6 (wrap64 (x7 - 1))) else ((some (([(⟨(⟨(rd_T72 x1 x6).f0.f0, (rd_T72 x1 x6).f0.f1, (rd_T72 x1 x6).f0.f2⟩ : S31), (rd_T72 x1 x6).f1⟩ : S72)] : List (S72)) : List (S72))).bind fun y202 => (if 0 ≤ x7 then (if x7 ≤ (x5.length : Int) then ((some (x5.drop (x7 : Int).toNat : List (S72))).bind fun y205 => (if y202.length + y205.length < 4398046511104 then ((some (y202 ++ y205 : List (S72))).bind fun y209 => ((some (([] : List (S72)) : List (S72))).bind fun y212 => ((some (x5.take (x7 : Int).toNat : List (S72))).bind fun y215 => (if y212.length + y215.length < 4398046511104 then ((some (y212 ++ y215 : List (S72))).bind fun y219 => (if y219.length + y209.length < 4398046511104 then (spec_l08Sorted.l0 k x0 x1 (y219 ++ y209) (wrap64 (x6 + 1))) else (none))) else (none))))) else (none))) else (none)) else (none))))) else (none)) else (none))) else (none)) else (none)) else (if 0 ≤ x6 then (if x6 < (x1.length : Int) then ((some (([(⟨(⟨(rd_T72 x1 x6).f0.f0, (rd_T72 x1 x6).f0.f1, (rd_T72 x1 x6).f0.f2⟩ : S31), (rd_T72 x1 x6).f1⟩ : S72)] : List (S72)) : List (S72))).bind fun y226 => (if 0 ≤ x7 then (if x7 ≤ (x5.length : Int) then ((some (x5.drop (x7 : Int).toNat : List (S72))).bind fun y229 => (if y226.length + y229.length < 4398046511104 then ((some (y226 ++ y229 : List (S72))).bind fun y233 => ((some (([] : List (S72)) : List (S72))).bind fun y236 => ((some (x5.take (x7 : Int).toNat : List (S72))).bind fun y239 => (if y236.length + y239.length < 4398046511104 then ((some (y236 ++ y239 : List (S72))).bind fun y243 => (if y243.length + y233.length < 4398046511104 then (spec_l08Sorted.l0 k x0 x1 (y243 ++ y233) (wrap64 (x6 + 1))) else (none))) else (none))))) else (none))) else (none)) else (none))) else (none)) else (none))
end
def spec_l08Sorted.f (k : Nat) (a0 : Int) (l1 : List (S72)) : Option ((List (S72))) := spec_l08Sorted.l0 k a0 l1 (([] : List (S72))) 0
def spec_l08Sorted.T6 : Bool × List (List Nat × List Nat) := (true, [([], []), ([0], [0]), ([1], [1]), ([2], [2]), ([2], [2]), ([2], [2]), ([5, 2], [2, 5]), ([4, 6, 2], [2, 4, 6]), ([7, 2], [2, 7]), ([8, 2], [2, 8]), ([3, 9, 2, 2], [2, 3, 9]), ([2], [2]), ([2], [2]), ([2], [2]), ([12, 13, 2], [2, 12, 13]), ([14, 2], [2, 14]), ([15, 2], [2, 15]), ([11, 16, 10, 2], [2, 11, 16]), ([10, 17, 2], [2, 10, 17]), ([2, 18], [2, 18])])
def spec_l08Sorted.B6 : List Nat := [0, 1, 3, 7, 7, 7, 39, 119, 247, 503, 1023, 7, 7, 7, 12295, 28679, 61447, 131071, 262143, 524287]
theorem spec_l08Sorted.tab6 : rtab .any (opsOf Try.f61 6) = spec_l08Sorted.T6 := by kernel_rfl
theorem spec_l08Sorted.bits6 : waitsOk spec_l08Sorted.T6.2 spec_l08Sorted.B6 = true := by kernel_rfl
def spec_l08Sorted.T8 : Bool × List (List Nat × List Nat) := (true, [([], []), ([], []), ([0, 1], [0, 1]), ([2], [2]), ([3], [3]), ([], []), ([], []), ([5, 6], [5, 6]), ([4, 7], [4, 7]), ([8, 8, 0, 1, 2, 3, 4, 5, 6, 7, 8], [8])])
def spec_l08Sorted.B8 : List Nat := [0, 0, 3, 7, 15, 0, 0, 96, 255, 511]
theorem spec_l08Sorted.tab8 : rtab .any (opsOf Try.f61 8) = spec_l08Sorted.T8 := by kernel_rfl
theorem spec_l08Sorted.bits8 : waitsOk spec_l08Sorted.T8.2 spec_l08Sorted.B8 = true := by kernel_rfl
set_option maxHeartbeats 8000000 in
set_option maxRecDepth 100000 in
theorem spec_l08Sorted.calls (k : Nat) (a0 : Int) (A1 : Option Addr) (c1 : Nat) (l1 : List (S72)) (r : List (S72)) (w : World) (hr1 : Kd.C k72 w A1 l1.length l1) (hc1 : l1.length ≤ c1) (h : spec_l08Sorted.f k a0 l1 = some r) :
  Calls Try.prog 61 #[.int .i64 a0, .slice A1 l1.length c1] w fun e w' => ∃ v0_ : Value, e = .returned (v0_) ∧ Kd.R k72 72 w' w.heap.size (fun _ => True) v0_ r ∧ Below w.heap.size w w' := by
 have hu72 := Try.underlying72
 have hu31 := Try.underlying31
 have HR1 := Aside0.mk hr1
 have HC1 := Aside0.mk hc1
 clear hr1 hc1
 have HB := Aside0.mk (Below.refl w.heap.size w)
 unfold spec_l08Sorted.f at h
 have H := h
 clear h
 obtain ⟨y194, hy194⟩ : ∃ y_ : List (S72), y_ = (([] : List (S72))) := ⟨_, rfl⟩
 replace H : (spec_l08Sorted.l0 k a0 l1 y194 0) = some r := by first | (rw [hy194]; with_reducible exact H) | (have H2_ := (Option.bind_some _ _).symm.trans H; rw [hy194]; with_reducible exact H2_) | (have H2_ := (Option.bind_some _ _).symm.trans H; with_reducible exact H2_) | with_reducible exact H | (rw [hy194]; exact H) | exact H
 have Ny194 := Aside0.mk hy194
 clear hy194
 have H' := Aside0.mk H
 clear H
 go_enter Try.func61, Try.ntmps61
 go_wp2_with (first | ((refine gd_ 9 ?_); refine Kd.R_lit k72 _ 72 ?hg (N := 9) ?hd (xs := ([] : List (S72))) (inner := []) (ok := fun _ => True) (okp := fun _ => True) ?hr ?hp (fun _ hk => hk) trivial (Below.refl _ _) (Nat.le_refl _) (by simp) ?_; (case hd => rfl); (case hg => rfl); (case hr => first | (go_simp; done) | (go_simp; rfl)); (case hp => exact (Reps.none _ _)); intro v195 w3 ho4 hb hg_ hnew_; clear hg_ hnew_; (first | rw [← Ny194.out] at ho4 | (simp only [Int.reduceToNat] at ho4; rw [← Ny194.out] at ho4)); have HO196 := Aside0.mk (Kd.R_lower ho4 (below_size (bw_ HB).out)); replace HB := bt_ HB hb; clear hb ho4))
 go_loopg [5, 6] k (fun kq v5 v6 w' => ∃ (x5_1 : List (S72)) (x6_1 : Int), v6 = .int .i64 x6_1 ∧ Aside0 (spec_l08Sorted.l0 kq a0 l1 x5_1 x6_1 = some r) ∧ Aside0 (kq ≤ k) ∧ Aside0 (Kd.R k72 72 w' w.heap.size (fun _ => True) v5 x5_1) ∧ Aside0 (Below w.heap.size w w'))
 case atStart => exact ⟨(y194), (0), en_, H', ⟨Nat.le_refl _⟩, ⟨by (with_reducible repeat (first | apply Kd.R_alloc | apply Kd.R_drewN | apply Kd.R_drew)); exact HO196.out⟩, bw_ HB⟩
 clear H'
 try clear c1
 obtain ⟨x5_1, x6_1, rfl, HA, HK1, HO_5, HB⟩ := hrel
 cases gk with
 | zero => exact absurd HA.out (by simp [spec_l08Sorted.l0])
 | succ k1 =>
  have H := HA.out
  clear HA
  simp only [spec_l08Sorted.l0] at H
  replace H := il_ H
  rcases H with ⟨c5b0, H⟩ | ⟨c5b0, H⟩
  ·have H' := Aside0.mk H
   clear H
   obtain ⟨Ao6, co6, eo6⟩ := Kd.R_slice HO_5.out
   subst eo6
   go_wp2
   go_loopg [7] k1 (fun kq v7 w' => ∃ (x7_2 : Int), v7 = .int .i64 x7_2 ∧ Aside0 (spec_l08Sorted.l1 kq a0 l1 x5_1 x6_1 x7_2 = some r) ∧ Aside0 (kq ≤ k1) ∧ Aside0 (Kd.R k72 72 w' w.heap.size (fun _ => True) (.slice Ao6 x5_1.length co6) x5_1) ∧ Aside0 (Below w.heap.size w w'))
   case atStart => exact ⟨((x5_1.length : Int)), en_, H', ⟨Nat.le_refl _⟩, ⟨by (with_reducible repeat (first | apply Kd.R_alloc | apply Kd.R_drewN | apply Kd.R_drew)); exact HO_5.out⟩, bw_ HB⟩
   clear H'
   try clear c1
   try clear c5b0
   obtain ⟨x7_2, rfl, HA, HK2, HO_5, HB⟩ := hrel
   cases gk with
   | zero => exact absurd HA.out (by simp [spec_l08Sorted.l1])
   | succ k2 =>
    have H := HA.out
    clear HA
    simp only [spec_l08Sorted.l1] at H
    replace H := ig_ H
    rcases H with ⟨c7b0, H⟩ | ⟨c7b0, H⟩
    ·obtain ⟨ji8, hji8⟩ : ∃ j_ : Int, (wrap64 (x7_2 - 1)) = j_ := ⟨_, rfl⟩
     replace H : (if 0 ≤ (ji8) then (if (ji8) < (x5_1.length : Int) then ((spec_l08Key.f k2 a0 ((rd_T72 x5_1 (ji8)).f0.f0) ((rd_T72 x5_1 (ji8)).f0.f1) ((rd_T72 x5_1 (ji8)).f0.f2)).bind fun t198 => (if 0 ≤ x6_1 then (if x6_1 < (l1.length : Int) then ((spec_l08Key.f k2 a0 ((rd_T72 l1 x6_1).f0.f0) ((rd_T72 l1 x6_1).f0.f1) ((rd_T72 l1 x6_1).f0.f2)).bind fun t200 => (if t198 > t200 then (spec_l08Sorted.l1 k2 a0 l1 x5_1 x6_1 ji8) else ((some (([(⟨(⟨(rd_T72 l1 x6_1).f0.f0, (rd_T72 l1 x6_1).f0.f1, (rd_T72 l1 x6_1).f0.f2⟩ : S31), (rd_T72 l1 x6_1).f1⟩ : S72)] : List (S72)) : List (S72))).bind fun y202 => (if 0 ≤ x7_2 then (if x7_2 ≤ (x5_1.length : Int) then ((some (x5_1.drop (x7_2 : Int).toNat : List (S72))).bind fun y205 => (if y202.length + y205.length < 4398046511104 then ((some (y202 ++ y205 : List (S72))).bind fun y209 => ((some (([] : List (S72)) : List (S72))).bind fun y212 => ((some (x5_1.take (x7_2 : Int).toNat : List (S72))).bind fun y215 => (if y212.length + y215.length < 4398046511104 then ((some (y212 ++ y215 : List (S72))).bind fun y219 => (if y219.length + y209.length < 4398046511104 then (spec_l08Sorted.l0 k2 a0 l1 (y219 ++ y209) (wrap64 (x6_1 + 1))) else (none))) else (none))))) else (none))) else (none)) else (none))))) else (none)) else (none))) else (none)) else (none)) = some r := by first | (rw [hji8] at H; exact H) | (simp only [hji8] at H ⊢; exact H)
     have hji8w : (IntKind.i64.wrap (x7_2 - 1)) = ji8 := (i64_w _).trans hji8
     replace H := imn_ H
     obtain ⟨c9b0, H⟩ := H
     replace H := iln_ H
     obtain ⟨c10b0, H⟩ := H
     replace H := oc_ H
     obtain ⟨t198, A11, H⟩ := H
     replace H := imn_ H
     obtain ⟨c12b0, H⟩ := H
     replace H := iln_ H
     obtain ⟨c13b0, H⟩ := H
     replace H := oc_ H
     obtain ⟨t200, A14, H⟩ := H
     replace H := ig_ H
     rcases H with ⟨c15b0, H⟩ | ⟨c15b0, H⟩
     ·have H' := Aside0.mk H
      clear H
      try go_wp2
      replace HO_5 := Aside0.mk (Kd.R_drew HO_5.out)
      replace HB := be_ HB
      have p197 : 0 ≤ ((ji8) : Int) := od_
      have q197 : (ji8) < (x5_1.length : Int) := od_
      obtain ⟨ad197, e197, hx197_0, hx197_1, hx197_2, hx197_3⟩ := at_T72 (Kd.R_reads' HO_5.out).2.2 (ji8) p197 q197
      cases e197
      replace p197 := eq_true p197
      replace q197 := eq_true q197
      have p199 : 0 ≤ (x6_1 : Int) := od_
      have q199 : x6_1 < (l1.length : Int) := od_
      obtain ⟨ad199, e199, hx199_0, hx199_1, hx199_2, hx199_3⟩ := at_T72 HR1.out x6_1 p199 q199
      have hw199_3 := hx199_3
      have hw199_2 := hx199_2
      have hw199_1 := hx199_1
      have hw199_0 := hx199_0
      cases e199
      replace hx199_0 := clTr HB.out hx199_0
      replace hx199_1 := clTr HB.out hx199_1
      replace hx199_2 := clTr HB.out hx199_2
      replace hx199_3 := clTr HB.out hx199_3
      replace p199 := eq_true p199
      replace q199 := eq_true q199
      refine start_ (n := 20) (S := fun w' => w'.cell? (ad197.add (((ji8)).toNat * 4)) = some (.int .i64 ((rd_T72 x5_1 (ji8)).f0.f0)) ∧ w'.cell? ⟨(ad197.add (((ji8)).toNat * 4)).block, (ad197.add (((ji8)).toNat * 4)).off + 1, none⟩ = some (.int .i64 ((rd_T72 x5_1 (ji8)).f0.f1)) ∧ w'.cell? ⟨(ad197.add (((ji8)).toNat * 4)).block, (ad197.add (((ji8)).toNat * 4)).off + 2, none⟩ = some (.int .i64 ((rd_T72 x5_1 (ji8)).f0.f2)) ∧ w'.cell? ⟨(ad197.add (((ji8)).toNat * 4)).block, (ad197.add (((ji8)).toNat * 4)).off + 3, none⟩ = some (.int .i64 ((rd_T72 x5_1 (ji8)).f1)) ∧ w'.cell? (ad199.add ((x6_1).toNat * 4)) = some (.int .i64 ((rd_T72 l1 x6_1).f0.f0)) ∧ w'.cell? ⟨(ad199.add ((x6_1).toNat * 4)).block, (ad199.add ((x6_1).toNat * 4)).off + 1, none⟩ = some (.int .i64 ((rd_T72 l1 x6_1).f0.f1)) ∧ w'.cell? ⟨(ad199.add ((x6_1).toNat * 4)).block, (ad199.add ((x6_1).toNat * 4)).off + 2, none⟩ = some (.int .i64 ((rd_T72 l1 x6_1).f0.f2)) ∧ w'.cell? ⟨(ad199.add ((x6_1).toNat * 4)).block, (ad199.add ((x6_1).toNat * 4)).off + 3, none⟩ = some (.int .i64 ((rd_T72 l1 x6_1).f1))) (ds := []) (bv_ 20 0) (by kernel_rfl) rfl rfl ⟨hx197_0, hx197_1, hx197_2, hx197_3, (clTr HB.out hw199_0 :), (clTr HB.out hw199_1 :), (clTr HB.out hw199_2 :), (clTr HB.out hw199_3 :)⟩ (fun hHeld => ?_); refine with_tabW spec_l08Sorted.tab6 spec_l08Sorted.bits6 (fun HT_ HW_ => ?_)
      generalize wr.drew = w16 at HO_5 HB hx197_0 hx197_1 hx197_2 hx197_3 hx199_0 hx199_1 hx199_2 hx199_3 hHeld ⊢
      refine px_ HT_ 0 18 1 ?_
      refine px_ HT_ 1 19 3 ?_
      refine px_ HT_ 2 20 7 ?_
      refine px_ HT_ 3 21 15 ?_
      refine px_ HT_ 4 22 31 ?_
      refine px_ HT_ 5 23 63 ?_
      refine px_ HT_ 6 24 127 ?_
      refine px_ HT_ 7 25 255 ?_
      refine px_ HT_ 8 26 511 ?_
      refine px_ HT_ 11 29 2559 ?_
      refine px_ HT_ 12 30 6655 ?_
      refine px_ HT_ 13 31 14847 ?_
      refine px_ HT_ 14 32 31231 ?_
      refine px_ HT_ 15 33 63999 ?_
      refine ta_ HT_ HW_ 9 (some 27) (bv_ 20 64511) hHeld ?_ (hy := by rintro w' ⟨s0, s1, s2, s3, s4, s5, s6, s7⟩; go_simp; with_reducible rfl)
      refine ta_ HT_ HW_ 16 (some 34) (bv_ 20 130047) hHeld ?_ (hy := by rintro w' ⟨s0, s1, s2, s3, s4, s5, s6, s7⟩; go_simp; with_reducible rfl)
      refine on_ HT_ 10 (some 28) (bv_ 20 131071) (fun K hK => ?_)
      refine gs_ Try.func67 #[.int .i64 a0, .agg #[.int .i64 ((rd_T72 x5_1 (ji8)).f0.f0), .int .i64 ((rd_T72 x5_1 (ji8)).f0.f1), .int .i64 ((rd_T72 x5_1 (ji8)).f0.f2)]] ?_ (hargs := by (try simp only [List.map_toArray, List.map_cons, List.map_nil]); first | done | (simp only [hji8]; rfl) | rfl | (simp only [List.length_drop, List.length_take]; rfl))
      with_reducible refine (spec_l08Key.calls k2 a0 ((rd_T72 x5_1 (ji8)).f0.f0) ((rd_T72 x5_1 (ji8)).f0.f1) ((rd_T72 x5_1 (ji8)).f0.f2) t198 _ A11.out).mono ?_
      rintro e w17 ⟨rfl, hb⟩
      have HS0_ := (hb.cell (World.block_lt_of_cell? _ _ (hHeld.1))).trans (hHeld.1)
      have HS1_ := (hb.cell (World.block_lt_of_cell? _ _ (hHeld.2.1))).trans (hHeld.2.1)
      have HS2_ := (hb.cell (World.block_lt_of_cell? _ _ (hHeld.2.2.1))).trans (hHeld.2.2.1)
      have HS3_ := (hb.cell (World.block_lt_of_cell? _ _ (hHeld.2.2.2.1))).trans (hHeld.2.2.2.1)
      refine ⟨_, rfl, ?_⟩
      replace HO_5 := rb_ HO_5 hb
      replace HB := bt_ HB hb
      try clear hb
      refine hK.out _ _ ⟨HS0_, HS1_, HS2_, HS3_, (clTr HB.out hw199_0 :), (clTr HB.out hw199_1 :), (clTr HB.out hw199_2 :), (clTr HB.out hw199_3 :)⟩ (fun hHeld => ?_)
      clear hK K
      refine nm_ (some 28) ?_
      refine on_ HT_ 17 (some 35) (bv_ 20 262143) (fun K hK => ?_)
      refine gs_ Try.func67 #[.int .i64 a0, .agg #[.int .i64 ((rd_T72 l1 x6_1).f0.f0), .int .i64 ((rd_T72 l1 x6_1).f0.f1), .int .i64 ((rd_T72 l1 x6_1).f0.f2)]] ?_
      with_reducible refine (spec_l08Key.calls k2 a0 ((rd_T72 l1 x6_1).f0.f0) ((rd_T72 l1 x6_1).f0.f1) ((rd_T72 l1 x6_1).f0.f2) t200 _ A14.out).mono ?_
      rintro e w18 ⟨rfl, hb⟩
      have HS0_ := (hb.cell (World.block_lt_of_cell? _ _ (hHeld.1))).trans (hHeld.1)
      have HS1_ := (hb.cell (World.block_lt_of_cell? _ _ (hHeld.2.1))).trans (hHeld.2.1)
      have HS2_ := (hb.cell (World.block_lt_of_cell? _ _ (hHeld.2.2.1))).trans (hHeld.2.2.1)
      have HS3_ := (hb.cell (World.block_lt_of_cell? _ _ (hHeld.2.2.2.1))).trans (hHeld.2.2.2.1)
      refine ⟨_, rfl, ?_⟩
      replace HO_5 := rb_ HO_5 hb
      replace HB := bt_ HB hb
      try clear hb
      refine hK.out _ _ ⟨HS0_, HS1_, HS2_, HS3_, (clTr HB.out hw199_0 :), (clTr HB.out hw199_1 :), (clTr HB.out hw199_2 :), (clTr HB.out hw199_3 :)⟩ (fun hHeld => ?_)
      clear hK K
      refine nm_ (some 35) ?_
      refine px_ HT_ 18 36 524287 ?_
      refine px_ HT_ 19 37 1048575 ?_
      refine done_ (done_of HT_.out (by kernel_rfl)) ?_
      try go_wp2
      go_roundg k2
      case measure => have := HK1.out; have := HK2.out; omega
      case rel => exact ⟨(ji8), (by first | rfl | (simp; done) | (simp only [← hji8] <;> (first | rfl | simp)) | (simp [*]; done)), H', ⟨by have := HK1.out; have := HK2.out; omega⟩, ⟨by (with_reducible repeat (first | apply Kd.R_alloc | apply Kd.R_drewN | apply Kd.R_drew)); exact HO_5.out⟩, bw_ HB⟩
     obtain ⟨y202, hy202⟩ : ∃ y_ : List (S72), y_ = (([(⟨(⟨(rd_T72 l1 x6_1).f0.f0, (rd_T72 l1 x6_1).f0.f1, (rd_T72 l1 x6_1).f0.f2⟩ : S31), (rd_T72 l1 x6_1).f1⟩ : S72)] : List (S72))) := ⟨_, rfl⟩
     replace H : (if 0 ≤ x7_2 then (if x7_2 ≤ (x5_1.length : Int) then ((some (x5_1.drop (x7_2 : Int).toNat : List (S72))).bind fun y205 => (if y202.length + y205.length < 4398046511104 then ((some (y202 ++ y205 : List (S72))).bind fun y209 => ((some (([] : List (S72)) : List (S72))).bind fun y212 => ((some (x5_1.take (x7_2 : Int).toNat : List (S72))).bind fun y215 => (if y212.length + y215.length < 4398046511104 then ((some (y212 ++ y215 : List (S72))).bind fun y219 => (if y219.length + y209.length < 4398046511104 then (spec_l08Sorted.l0 k2 a0 l1 (y219 ++ y209) (wrap64 (x6_1 + 1))) else (none))) else (none))))) else (none))) else (none)) else (none)) = some r := by first | (rw [hy202]; with_reducible exact H) | (have H2_ := (Option.bind_some _ _).symm.trans H; rw [hy202]; with_reducible exact H2_) | (have H2_ := (Option.bind_some _ _).symm.trans H; with_reducible exact H2_) | with_reducible exact H | (rw [hy202]; exact H) | exact H
     have Ny202 := Aside0.mk hy202
     clear hy202
     by_cases c19 : 0 ≤ x7_2
     ·rw [if_pos c19] at H
      have c19b0 := eq_true c19
      have c19b1 : decide (0 ≤ x7_2) = true := decide_eq_true c19
      clear c19
      by_cases c20 : x7_2 ≤ (x5_1.length : Int)
      ·rw [if_pos c20] at H
       have c20b0 := eq_true c20
       have c20b1 : decide (x7_2 ≤ (x5_1.length : Int)) = true := decide_eq_true c20
       clear c20
       obtain ⟨y205, hy205⟩ : ∃ y_ : List (S72), y_ = (x5_1.drop (x7_2 : Int).toNat) := ⟨_, rfl⟩
       replace H : (if y202.length + y205.length < 4398046511104 then ((some (y202 ++ y205 : List (S72))).bind fun y209 => ((some (([] : List (S72)) : List (S72))).bind fun y212 => ((some (x5_1.take (x7_2 : Int).toNat : List (S72))).bind fun y215 => (if y212.length + y215.length < 4398046511104 then ((some (y212 ++ y215 : List (S72))).bind fun y219 => (if y219.length + y209.length < 4398046511104 then (spec_l08Sorted.l0 k2 a0 l1 (y219 ++ y209) (wrap64 (x6_1 + 1))) else (none))) else (none))))) else (none)) = some r := by first | (rw [hy205]; with_reducible exact H) | (have H2_ := (Option.bind_some _ _).symm.trans H; rw [hy205]; with_reducible exact H2_) | (have H2_ := (Option.bind_some _ _).symm.trans H; with_reducible exact H2_) | with_reducible exact H | (rw [hy205]; exact H) | exact H
       have Ny205 := Aside0.mk hy205
       clear hy205
       by_cases c21 : y202.length + y205.length < 4398046511104
       ·rw [if_pos c21] at H
        have LMc21 := Aside0.mk c21
        clear c21
        obtain ⟨y209, hy209⟩ : ∃ y_ : List (S72), y_ = (y202 ++ y205) := ⟨_, rfl⟩
        replace H : ((some (([] : List (S72)) : List (S72))).bind fun y212 => ((some (x5_1.take (x7_2 : Int).toNat : List (S72))).bind fun y215 => (if y212.length + y215.length < 4398046511104 then ((some (y212 ++ y215 : List (S72))).bind fun y219 => (if y219.length + y209.length < 4398046511104 then (spec_l08Sorted.l0 k2 a0 l1 (y219 ++ y209) (wrap64 (x6_1 + 1))) else (none))) else (none)))) = some r := by first | (rw [hy209]; with_reducible exact H) | (have H2_ := (Option.bind_some _ _).symm.trans H; rw [hy209]; with_reducible exact H2_) | (have H2_ := (Option.bind_some _ _).symm.trans H; with_reducible exact H2_) | with_reducible exact H | (rw [hy209]; exact H) | exact H
        have Ny209 := Aside0.mk hy209
        clear hy209
        obtain ⟨y212, hy212⟩ : ∃ y_ : List (S72), y_ = (([] : List (S72))) := ⟨_, rfl⟩
        replace H : ((some (x5_1.take (x7_2 : Int).toNat : List (S72))).bind fun y215 => (if y212.length + y215.length < 4398046511104 then ((some (y212 ++ y215 : List (S72))).bind fun y219 => (if y219.length + y209.length < 4398046511104 then (spec_l08Sorted.l0 k2 a0 l1 (y219 ++ y209) (wrap64 (x6_1 + 1))) else (none))) else (none))) = some r := by first | (rw [hy212]; with_reducible exact H) | (have H2_ := (Option.bind_some _ _).symm.trans H; rw [hy212]; with_reducible exact H2_) | (have H2_ := (Option.bind_some _ _).symm.trans H; with_reducible exact H2_) | with_reducible exact H | (rw [hy212]; exact H) | exact H
        have Ny212 := Aside0.mk hy212
        clear hy212
        have c22b0 := eq_true (od_ : 0 ≤ x7_2)
        have c23b0 := eq_true (od_ : x7_2 ≤ (x5_1.length : Int))
        obtain ⟨y215, hy215⟩ : ∃ y_ : List (S72), y_ = (x5_1.take (x7_2 : Int).toNat) := ⟨_, rfl⟩
        replace H : (if y212.length + y215.length < 4398046511104 then ((some (y212 ++ y215 : List (S72))).bind fun y219 => (if y219.length + y209.length < 4398046511104 then (spec_l08Sorted.l0 k2 a0 l1 (y219 ++ y209) (wrap64 (x6_1 + 1))) else (none))) else (none)) = some r := by first | (rw [hy215]; with_reducible exact H) | (have H2_ := (Option.bind_some _ _).symm.trans H; rw [hy215]; with_reducible exact H2_) | (have H2_ := (Option.bind_some _ _).symm.trans H; with_reducible exact H2_) | with_reducible exact H | (rw [hy215]; exact H) | exact H
        have Ny215 := Aside0.mk hy215
        clear hy215
        by_cases c24 : y212.length + y215.length < 4398046511104
        ·rw [if_pos c24] at H
         have LMc24 := Aside0.mk c24
         clear c24
         obtain ⟨y219, hy219⟩ : ∃ y_ : List (S72), y_ = (y212 ++ y215) := ⟨_, rfl⟩
         replace H : (if y219.length + y209.length < 4398046511104 then (spec_l08Sorted.l0 k2 a0 l1 (y219 ++ y209) (wrap64 (x6_1 + 1))) else (none)) = some r := by first | (rw [hy219]; with_reducible exact H) | (have H2_ := (Option.bind_some _ _).symm.trans H; rw [hy219]; with_reducible exact H2_) | (have H2_ := (Option.bind_some _ _).symm.trans H; with_reducible exact H2_) | with_reducible exact H | (rw [hy219]; exact H) | exact H
         have Ny219 := Aside0.mk hy219
         clear hy219
         by_cases c25 : y219.length + y209.length < 4398046511104
         ·rw [if_pos c25] at H
          have LMc25 := Aside0.mk c25
          clear c25
          obtain ⟨y222, hy222⟩ : ∃ y_ : List (S72), y_ = (y219 ++ y209) := ⟨_, rfl⟩
          replace H : (spec_l08Sorted.l0 k2 a0 l1 y222 (wrap64 (x6_1 + 1))) = some r := by first | (rw [hy222]; with_reducible exact H) | (have H2_ := (Option.bind_some _ _).symm.trans H; rw [hy222]; with_reducible exact H2_) | (have H2_ := (Option.bind_some _ _).symm.trans H; with_reducible exact H2_) | with_reducible exact H | (rw [hy222]; exact H) | exact H
          have Ny222 := Aside0.mk hy222
          clear hy222
          have H' := Aside0.mk H
          clear H
          try go_wp2
          replace HO_5 := Aside0.mk (Kd.R_drew HO_5.out)
          replace HB := be_ HB
          have p197 : 0 ≤ ((ji8) : Int) := od_
          have q197 : (ji8) < (x5_1.length : Int) := od_
          obtain ⟨ad197, e197, hx197_0, hx197_1, hx197_2, hx197_3⟩ := at_T72 (Kd.R_reads' HO_5.out).2.2 (ji8) p197 q197
          cases e197
          replace p197 := eq_true p197
          replace q197 := eq_true q197
          have p199 : 0 ≤ (x6_1 : Int) := od_
          have q199 : x6_1 < (l1.length : Int) := od_
          obtain ⟨ad199, e199, hx199_0, hx199_1, hx199_2, hx199_3⟩ := at_T72 HR1.out x6_1 p199 q199
          have hw199_3 := hx199_3
          have hw199_2 := hx199_2
          have hw199_1 := hx199_1
          have hw199_0 := hx199_0
          cases e199
          replace hx199_0 := clTr HB.out hx199_0
          replace hx199_1 := clTr HB.out hx199_1
          replace hx199_2 := clTr HB.out hx199_2
          replace hx199_3 := clTr HB.out hx199_3
          replace p199 := eq_true p199
          replace q199 := eq_true q199
          refine start_ (n := 20) (S := fun w' => w'.cell? (ad197.add (((ji8)).toNat * 4)) = some (.int .i64 ((rd_T72 x5_1 (ji8)).f0.f0)) ∧ w'.cell? ⟨(ad197.add (((ji8)).toNat * 4)).block, (ad197.add (((ji8)).toNat * 4)).off + 1, none⟩ = some (.int .i64 ((rd_T72 x5_1 (ji8)).f0.f1)) ∧ w'.cell? ⟨(ad197.add (((ji8)).toNat * 4)).block, (ad197.add (((ji8)).toNat * 4)).off + 2, none⟩ = some (.int .i64 ((rd_T72 x5_1 (ji8)).f0.f2)) ∧ w'.cell? ⟨(ad197.add (((ji8)).toNat * 4)).block, (ad197.add (((ji8)).toNat * 4)).off + 3, none⟩ = some (.int .i64 ((rd_T72 x5_1 (ji8)).f1)) ∧ w'.cell? (ad199.add ((x6_1).toNat * 4)) = some (.int .i64 ((rd_T72 l1 x6_1).f0.f0)) ∧ w'.cell? ⟨(ad199.add ((x6_1).toNat * 4)).block, (ad199.add ((x6_1).toNat * 4)).off + 1, none⟩ = some (.int .i64 ((rd_T72 l1 x6_1).f0.f1)) ∧ w'.cell? ⟨(ad199.add ((x6_1).toNat * 4)).block, (ad199.add ((x6_1).toNat * 4)).off + 2, none⟩ = some (.int .i64 ((rd_T72 l1 x6_1).f0.f2)) ∧ w'.cell? ⟨(ad199.add ((x6_1).toNat * 4)).block, (ad199.add ((x6_1).toNat * 4)).off + 3, none⟩ = some (.int .i64 ((rd_T72 l1 x6_1).f1))) (ds := []) (bv_ 20 0) (by kernel_rfl) rfl rfl ⟨hx197_0, hx197_1, hx197_2, hx197_3, (clTr HB.out hw199_0 :), (clTr HB.out hw199_1 :), (clTr HB.out hw199_2 :), (clTr HB.out hw199_3 :)⟩ (fun hHeld => ?_); refine with_tabW spec_l08Sorted.tab6 spec_l08Sorted.bits6 (fun HT_ HW_ => ?_)
          generalize wr.drew = w26 at HO_5 HB hx197_0 hx197_1 hx197_2 hx197_3 hx199_0 hx199_1 hx199_2 hx199_3 hHeld ⊢
          refine px_ HT_ 0 18 1 ?_
          refine px_ HT_ 1 19 3 ?_
          refine px_ HT_ 2 20 7 ?_
          refine px_ HT_ 3 21 15 ?_
          refine px_ HT_ 4 22 31 ?_
          refine px_ HT_ 5 23 63 ?_
          refine px_ HT_ 6 24 127 ?_
          refine px_ HT_ 7 25 255 ?_
          refine px_ HT_ 8 26 511 ?_
          refine px_ HT_ 11 29 2559 ?_
          refine px_ HT_ 12 30 6655 ?_
          refine px_ HT_ 13 31 14847 ?_
          refine px_ HT_ 14 32 31231 ?_
          refine px_ HT_ 15 33 63999 ?_
          refine ta_ HT_ HW_ 9 (some 27) (bv_ 20 64511) hHeld ?_ (hy := by rintro w' ⟨s0, s1, s2, s3, s4, s5, s6, s7⟩; go_simp; with_reducible rfl)
          refine ta_ HT_ HW_ 16 (some 34) (bv_ 20 130047) hHeld ?_ (hy := by rintro w' ⟨s0, s1, s2, s3, s4, s5, s6, s7⟩; go_simp; with_reducible rfl)
          refine on_ HT_ 10 (some 28) (bv_ 20 131071) (fun K hK => ?_)
          refine gs_ Try.func67 #[.int .i64 a0, .agg #[.int .i64 ((rd_T72 x5_1 (ji8)).f0.f0), .int .i64 ((rd_T72 x5_1 (ji8)).f0.f1), .int .i64 ((rd_T72 x5_1 (ji8)).f0.f2)]] ?_ (hargs := by (try simp only [List.map_toArray, List.map_cons, List.map_nil]); first | done | (simp only [hji8]; rfl) | rfl | (simp only [List.length_drop, List.length_take]; rfl))
          with_reducible refine (spec_l08Key.calls k2 a0 ((rd_T72 x5_1 (ji8)).f0.f0) ((rd_T72 x5_1 (ji8)).f0.f1) ((rd_T72 x5_1 (ji8)).f0.f2) t198 _ A11.out).mono ?_
          rintro e w27 ⟨rfl, hb⟩
          have HS0_ := (hb.cell (World.block_lt_of_cell? _ _ (hHeld.1))).trans (hHeld.1)
          have HS1_ := (hb.cell (World.block_lt_of_cell? _ _ (hHeld.2.1))).trans (hHeld.2.1)
          have HS2_ := (hb.cell (World.block_lt_of_cell? _ _ (hHeld.2.2.1))).trans (hHeld.2.2.1)
          have HS3_ := (hb.cell (World.block_lt_of_cell? _ _ (hHeld.2.2.2.1))).trans (hHeld.2.2.2.1)
          refine ⟨_, rfl, ?_⟩
          replace HO_5 := rb_ HO_5 hb
          replace HB := bt_ HB hb
          try clear hb
          refine hK.out _ _ ⟨HS0_, HS1_, HS2_, HS3_, (clTr HB.out hw199_0 :), (clTr HB.out hw199_1 :), (clTr HB.out hw199_2 :), (clTr HB.out hw199_3 :)⟩ (fun hHeld => ?_)
          clear hK K
          refine nm_ (some 28) ?_
          refine on_ HT_ 17 (some 35) (bv_ 20 262143) (fun K hK => ?_)
          refine gs_ Try.func67 #[.int .i64 a0, .agg #[.int .i64 ((rd_T72 l1 x6_1).f0.f0), .int .i64 ((rd_T72 l1 x6_1).f0.f1), .int .i64 ((rd_T72 l1 x6_1).f0.f2)]] ?_
          with_reducible refine (spec_l08Key.calls k2 a0 ((rd_T72 l1 x6_1).f0.f0) ((rd_T72 l1 x6_1).f0.f1) ((rd_T72 l1 x6_1).f0.f2) t200 _ A14.out).mono ?_
          rintro e w28 ⟨rfl, hb⟩
          have HS0_ := (hb.cell (World.block_lt_of_cell? _ _ (hHeld.1))).trans (hHeld.1)
          have HS1_ := (hb.cell (World.block_lt_of_cell? _ _ (hHeld.2.1))).trans (hHeld.2.1)
          have HS2_ := (hb.cell (World.block_lt_of_cell? _ _ (hHeld.2.2.1))).trans (hHeld.2.2.1)
          have HS3_ := (hb.cell (World.block_lt_of_cell? _ _ (hHeld.2.2.2.1))).trans (hHeld.2.2.2.1)
          refine ⟨_, rfl, ?_⟩
          replace HO_5 := rb_ HO_5 hb
          replace HB := bt_ HB hb
          try clear hb
          refine hK.out _ _ ⟨HS0_, HS1_, HS2_, HS3_, (clTr HB.out hw199_0 :), (clTr HB.out hw199_1 :), (clTr HB.out hw199_2 :), (clTr HB.out hw199_3 :)⟩ (fun hHeld => ?_)
          clear hK K
          refine nm_ (some 35) ?_
          refine px_ HT_ 18 36 524287 ?_
          refine px_ HT_ 19 37 1048575 ?_
          refine done_ (done_of HT_.out (by kernel_rfl)) ?_
          try go_wp2
          replace HO_5 := Aside0.mk (Kd.R_drew HO_5.out)
          replace HB := be_ HB
          have p201 : 0 ≤ (x6_1 : Int) := od_
          have q201 : x6_1 < (l1.length : Int) := od_
          obtain ⟨ad201, e201, hx201_0, hx201_1, hx201_2, hx201_3⟩ := at_T72 HR1.out x6_1 p201 q201
          have hw201_3 := hx201_3
          have hw201_2 := hx201_2
          have hw201_1 := hx201_1
          have hw201_0 := hx201_0
          obtain rfl : ad199 = ad201 := (by injection e201)
          replace hx201_0 := clTr HB.out hx201_0
          replace hx201_1 := clTr HB.out hx201_1
          replace hx201_2 := clTr HB.out hx201_2
          replace hx201_3 := clTr HB.out hx201_3
          replace p201 := eq_true p201
          replace q201 := eq_true q201
          have q30 : (x7_2 : Int) ≤ ((x5_1.length : Int) : Int) := od_
          obtain ⟨i030, hi030, _, hsz30, _⟩ := info_parts info72
          have hroom30 : x5_1.length ≤ co6 := (Kd.R_reads' HO_5.out).2.1
          have hC30 : Kd.C k72 _ (some ad197) x5_1.length x5_1 := (Kd.R_reads' HO_5.out).2.2
          have q030 : (0 : Int) ≤ (x7_2 : Int) := od_
          have hcut30 := cut_from (P := Try.prog) 32 72 .i64 Try.underlying32 hi030 4 hsz30 (some ad197) x5_1.length co6 x7_2 q030 q30
          have hr30 := Kd.C_drop (m := (x7_2 : Int).toNat) (c := co6) hC30 (by omega) hroom30
          obtain ⟨A30, hA30⟩ : ∃ A1, A1 = (if co6 = (x7_2 : Int).toNat then (some ad197) else ((some ad197) : Option Addr).map (·.add ((x7_2 : Int).toNat * 4))) := ⟨_, rfl⟩
          obtain ⟨c30, hc30⟩ : ∃ c1, c1 = co6 - (x7_2 : Int).toNat := ⟨_, rfl⟩
          have hy30 : y205.length = x5_1.length - (x7_2 : Int).toNat := (by rw [Ny205.out, List.length_drop] <;> omega)
          rw [show (x5_1).drop (x7_2 : Int).toNat = y205 from Ny205.out.symm] at hr30
          replace hr30 : Kd.C k72 _ A30 y205.length y205 := (by rw [hA30]; exact hr30)
          rw [← hy30, ← hA30, ← hc30] at hcut30
          have HR208 := Aside0.mk hr30
          have HC208 := Aside0.mk (show y205.length ≤ c30 from by rw [hy30, hc30]; exact Nat.sub_le_sub_right hroom30 _)
          clear hr30 hC30 hroom30 hi030 hsz30 hc30
          have KY30 := Aside0.mk hy30
          have KA30 := Aside0.mk hA30
          clear hy30 hA30
          have KL30 := Aside0.mk (show (x7_2 : Int).toNat ≤ x5_1.length from by omega)
          replace q30 := eq_true q30
          refine start_ (n := 10) (S := fun w' => w'.cell? (ad199.add ((x6_1).toNat * 4)) = some (.int .i64 ((rd_T72 l1 x6_1).f0.f0)) ∧ w'.cell? ⟨(ad199.add ((x6_1).toNat * 4)).block, (ad199.add ((x6_1).toNat * 4)).off + 1, none⟩ = some (.int .i64 ((rd_T72 l1 x6_1).f0.f1)) ∧ w'.cell? ⟨(ad199.add ((x6_1).toNat * 4)).block, (ad199.add ((x6_1).toNat * 4)).off + 2, none⟩ = some (.int .i64 ((rd_T72 l1 x6_1).f0.f2)) ∧ w'.cell? ⟨(ad199.add ((x6_1).toNat * 4)).block, (ad199.add ((x6_1).toNat * 4)).off + 3, none⟩ = some (.int .i64 ((rd_T72 l1 x6_1).f1))) (ds := []) (bv_ 10 0) (by kernel_rfl) rfl rfl ⟨(clTr HB.out hw201_0 :), (clTr HB.out hw201_1 :), (clTr HB.out hw201_2 :), (clTr HB.out hw201_3 :)⟩ (fun hHeld => ?_); refine with_tabW spec_l08Sorted.tab8 spec_l08Sorted.bits8 (fun HT_ HW_ => ?_)
          generalize w28.drew = w29 at HO_5 HB HR208 hx201_0 hx201_1 hx201_2 hx201_3 hHeld ⊢
          refine px_ HT_ 0 40 1 ?_
          refine px_ HT_ 1 41 3 ?_
          refine px_ HT_ 2 42 7 ?_
          refine px_ HT_ 5 45 39 ?_
          refine px_ HT_ 6 46 103 ?_
          refine px_ HT_ 7 47 231 ?_
          refine ta_ HT_ HW_ 3 (some 43) (bv_ 10 239) hHeld ?_ (hy := by rintro w' ⟨s0, s1, s2, s3⟩; go_simp; with_reducible rfl)
          refine on_ HT_ 4 (some 44) (bv_ 10 255) (fun K hK => ?_)
          refine Kd.R_lit_step k72 _ 72 ?hg (N := 44) ?hd (xs := ([(⟨(⟨(rd_T72 l1 x6_1).f0.f0, (rd_T72 l1 x6_1).f0.f1, (rd_T72 l1 x6_1).f0.f2⟩ : S31), (rd_T72 l1 x6_1).f1⟩ : S72)] : List (S72))) (inner := [.int .i64 ((rd_T72 l1 x6_1).f0.f0), .int .i64 ((rd_T72 l1 x6_1).f0.f1), .int .i64 ((rd_T72 l1 x6_1).f0.f2), .int .i64 ((rd_T72 l1 x6_1).f1)]) (ok := fun _ => True) (okp := fun _ => True) ?hr ?hp (fun _ hk => hk) trivial (Below.refl _ _) (Nat.le_refl _) (by simp) ?_; (case hd => rfl); (case hg => rfl); (case hr => first | (go_simp; done) | (go_simp; rfl)); (case hp => exact (Reps.c4 (show Kd.M k72 _ _ _ (⟨(⟨(rd_T72 l1 x6_1).f0.f0, (rd_T72 l1 x6_1).f0.f1, (rd_T72 l1 x6_1).f0.f2⟩ : S31), (rd_T72 l1 x6_1).f1⟩ : S72) [.int .i64 ((rd_T72 l1 x6_1).f0.f0), .int .i64 ((rd_T72 l1 x6_1).f0.f1), .int .i64 ((rd_T72 l1 x6_1).f0.f2), .int .i64 ((rd_T72 l1 x6_1).f1)] from (k72_mkM _ _ _ (⟨(⟨(rd_T72 l1 x6_1).f0.f0, (rd_T72 l1 x6_1).f0.f1, (rd_T72 l1 x6_1).f0.f2⟩ : S31), (rd_T72 l1 x6_1).f1⟩ : S72) )) (Reps.none _ _)))
          intro v203 w31 ho32 hb hg_ hnew_
          clear hg_ hnew_
          (first | rw [← Ny202.out] at ho32 | (simp only [Int.reduceToNat] at ho32; rw [← Ny202.out] at ho32))
          have HO204 := Aside0.mk (Kd.R_lower (Kd.R_new' ho32 (Kd.R_lt (ra_ HO_5.out))) (below_size (bw_ HB).out))
          replace HO_5 := Aside0.mk (Kd.R_elder' (ra_ HO_5.out) (Kd.R_base ho32) hb)
          replace HR208 := Aside0.mk (Kd.C_below (by repeat (first | (with_reducible exact HR208.out) | (with_reducible refine Kd.C_alloc ?_ _) | (with_reducible refine Kd.C_drewN ?_ _) | (with_reducible refine Kd.C_drew ?_) | exact HR208.out)) hb)
          replace HB := bt_ HB hb
          clear hb ho32
          refine hK.out _ _ ⟨(clTr HB.out hw201_0 :), (clTr HB.out hw201_1 :), (clTr HB.out hw201_2 :), (clTr HB.out hw201_3 :)⟩ (fun hHeld => ?_)
          clear hK K
          refine nm_ (some 44) ?_
          refine on_ HT_ 8 (some 48) (bv_ 10 511) (fun K hK => ?_)
          refine Kd.R_append_rows_step k72 (w0 := w) w.heap.size (by rfl) (.tmp 44) (.tmp 47) 32 72 (.agg #[(.int .i64 0), (.int .i64 0), (.int .i64 0), (.int .i64 0)]) 32 rfl Try.underlying32 info72 rfl (by decide) (by omega) v203 y202 y205 _ _ _ (fun k_ => some k_ ≠ (.slice (some ad197) x5_1.length co6 : Value).ownBlock) (fun _ => False) rfl rfl ?aO ?aR (fun _ _ h => h) (fun _ h => h.elim) ?aF ?aB ?aS ?aL ?_
          (case aR => repeat (first | exact (by repeat (first | (with_reducible exact HR208.out) | (with_reducible refine Kd.C_alloc ?_ _) | (with_reducible refine Kd.C_drewN ?_ _) | (with_reducible refine Kd.C_drew ?_) | exact HR208.out)) | (with_reducible refine Kd.C_alloc ?_ _) | (with_reducible refine Kd.C_drewN ?_ _) | (with_reducible refine Kd.C_drew ?_)))
          (case aB => exact (bw_ HB).out)
          (case aF => exact (fun k_ hk => Kd.fresh' (Kd.R_lt (ra_ HO_5.out)) k_ hk))
          (case aO => exact (by (with_reducible repeat (first | apply Kd.R_alloc | apply Kd.R_drewN | apply Kd.R_drew)); exact Kd.R_mono HO204.out (fun _ hk => hk.2)))
          (case aS => exact (below_size (bw_ HB).out))
          (case aL => have := LMc21.out; omega)
          intro v210 w33 ho hb hg hat
          rw [← Ny209.out] at ho
          have n0_ := Aside0.mk (Kd.R_after (ok := (fun _ => True)) (ra_ HO_5.out) hg hat)
          have n1_ := Aside0.mk (hb)
          have n2_ := Aside0.mk ((show Kd.C k72 w33 A30 y205.length y205 from by rw [Ny205.out, KA30.out]; exact Kd.C_drop (m := (x7_2 : Int).toNat) (c := co6) ((Kd.R_reads' (Kd.R_after (ok := (fun _ => True)) (ra_ HO_5.out) hg hat)).2.2) KL30.out ((Kd.R_reads' (Kd.R_after (ok := (fun _ => True)) (ra_ HO_5.out) hg hat)).2.1)))
          have n3_ := Aside0.mk (ho)
          clear HO_5
          clear HB
          clear HR208
          clear HO204
          have HO_5 := n0_
          have HB := n1_
          have HR208 := n2_
          have HO211 := n3_
          clear n0_ n1_ n2_ n3_
          clear ho hb hg hat
          refine hK.out _ _ ⟨(clTr HB.out hw201_0 :), (clTr HB.out hw201_1 :), (clTr HB.out hw201_2 :), (clTr HB.out hw201_3 :)⟩ (fun hHeld => ?_)
          clear hK K
          refine nm_ (some 48) ?_
          refine px_ HT_ 9 8 1023 ?_
          refine done_ (done_of HT_.out (by kernel_rfl)) ?_
          try go_wp2_with (first | ((refine gd_ 49 ?_); refine Kd.R_lit k72 _ 72 ?hg (N := 49) ?hd (xs := ([] : List (S72))) (inner := []) (ok := fun _ => True) (okp := fun _ => True) ?hr ?hp (fun _ hk => hk) trivial (Below.refl _ _) (Nat.le_refl _) (by simp) ?_; (case hd => rfl); (case hg => rfl); (case hr => first | (go_simp; done) | (go_simp; rfl)); (case hp => exact (Reps.none _ _)); intro v213 w34 ho35 hb hg_ hnew_; clear hg_ hnew_; (first | rw [← Ny212.out] at ho35 | (simp only [Int.reduceToNat] at ho35; rw [← Ny212.out] at ho35)); have HO214 := Aside0.mk (Kd.R_lower (Kd.R_new' (Kd.R_new' ho35 (Kd.R_lt (ra_ HO_5.out))) (Kd.R_lt (ra_ HO211.out))) (below_size (bw_ HB).out)); replace HO_5 := Aside0.mk (Kd.R_elder' (ra_ HO_5.out) (Kd.R_base ho35) hb); replace HO211 := Aside0.mk (Kd.R_elder' (ra_ HO211.out) (Kd.R_base ho35) hb); replace HR208 := Aside0.mk (Kd.C_below (by repeat (first | (with_reducible exact HR208.out) | (with_reducible refine Kd.C_alloc ?_ _) | (with_reducible refine Kd.C_drewN ?_ _) | (with_reducible refine Kd.C_drew ?_) | exact HR208.out)) hb); replace HB := bt_ HB hb; clear hb ho35; have q36 : (x7_2 : Int) ≤ ((x5_1.length : Int) : Int) := od_; obtain ⟨i036, hi036, _, hsz36, _⟩ := info_parts info72; have hroom36 : x5_1.length ≤ co6 := (Kd.R_reads' HO_5.out).2.1; have hC36 : Kd.C k72 _ (some ad197) x5_1.length x5_1 := (Kd.R_reads' HO_5.out).2.2; have hcut36 := cut_to (P := Try.prog) 32 72 .i64 Try.underlying32 hi036 (some ad197) x5_1.length co6 x7_2 od_ q36 hroom36; have hr36 := Kd.C_take (m := (x7_2 : Int).toNat) hC36 (by omega); have hy36 : y215.length = (x7_2 : Int).toNat := (by rw [Ny215.out, List.length_take]; omega); rw [← Ny215.out] at hr36; rw [← hy36] at hcut36; have HR218 := Aside0.mk hr36; have HC218 := Aside0.mk (show y215.length ≤ co6 from by omega); clear hr36 hC36 hroom36 hi036 hsz36; have KY36 := Aside0.mk hy36; clear hy36; have KL36 := Aside0.mk (show (x7_2 : Int).toNat ≤ x5_1.length from by omega); replace q36 := eq_true q36) | ((with_reducible refine gate_builtin (b := .append) (xs := #[.tmp 49, .tmp 52]) rfl ?_); at_builtin; refine Kd.R_append_rows k72 (w0 := w) w.heap.size rfl (.tmp 49) (.tmp 52) 32 72 (.agg #[(.int .i64 0), (.int .i64 0), (.int .i64 0), (.int .i64 0)]) 32 rfl Try.underlying32 info72 rfl (by decide) (by omega) v213 y212 y215 _ _ _ (fun k_ => some k_ ≠ (.slice (some ad197) x5_1.length co6 : Value).ownBlock ∧ some k_ ≠ (v210 : Value).ownBlock) (fun _ => False) rfl rfl ?aO ?aR (fun _ _ h => h) (fun _ h => h.elim) ?aF ?aB ?aS ?aL ?_; (case aR => repeat (first | exact (by repeat (first | (with_reducible exact HR218.out) | (with_reducible refine Kd.C_alloc ?_ _) | (with_reducible refine Kd.C_drewN ?_ _) | (with_reducible refine Kd.C_drew ?_) | exact HR218.out)) | (with_reducible refine Kd.C_alloc ?_ _) | (with_reducible refine Kd.C_drewN ?_ _) | (with_reducible refine Kd.C_drew ?_))); (case aB => exact (bw_ HB).out); (case aF => exact (fun k_ hk => ⟨Kd.fresh' (Kd.R_lt (ra_ HO_5.out)) k_ hk, Kd.fresh' (Kd.R_lt (ra_ HO211.out)) k_ hk⟩)); (case aO => exact (by (with_reducible repeat (first | apply Kd.R_alloc | apply Kd.R_drewN | apply Kd.R_drew)); exact Kd.R_mono HO214.out (fun _ hk => ⟨hk.1.2, hk.2⟩))); (case aS => exact (below_size (bw_ HB).out)); (case aL => have := LMc24.out; omega); intro v220 w37 ho hb hg hat; rw [← Ny219.out] at ho; have n0_ := Aside0.mk (Kd.R_after (ok := (fun k_ => some k_ ≠ (v210 : Value).ownBlock)) (by (with_reducible repeat (first | apply Kd.R_alloc | apply Kd.R_drewN | apply Kd.R_drew)); exact Kd.R_mono HO_5.out (fun _ hk => ⟨hk.1.2, hk.2⟩)) hg hat); have n1_ := Aside0.mk (Kd.R_after (ok := (fun k_ => some k_ ≠ (.slice (some ad197) x5_1.length co6 : Value).ownBlock)) (ra_ HO211.out) hg hat); have n2_ := Aside0.mk (hb); have n3_ := Aside0.mk ((show Kd.C k72 w37 A30 y205.length y205 from by rw [Ny205.out, KA30.out]; exact Kd.C_drop (m := (x7_2 : Int).toNat) (c := co6) ((Kd.R_reads' (Kd.R_after (ok := (fun k_ => some k_ ≠ (v210 : Value).ownBlock)) (by (with_reducible repeat (first | apply Kd.R_alloc | apply Kd.R_drewN | apply Kd.R_drew)); exact Kd.R_mono HO_5.out (fun _ hk => ⟨hk.1.2, hk.2⟩)) hg hat)).2.2) KL30.out ((Kd.R_reads' (Kd.R_after (ok := (fun k_ => some k_ ≠ (v210 : Value).ownBlock)) (by (with_reducible repeat (first | apply Kd.R_alloc | apply Kd.R_drewN | apply Kd.R_drew)); exact Kd.R_mono HO_5.out (fun _ hk => ⟨hk.1.2, hk.2⟩)) hg hat)).2.1))); have n4_ := Aside0.mk ((show Kd.C k72 w37 (some ad197) y215.length y215 from by rw [Ny215.out]; exact Kd.C_take (m := (x7_2 : Int).toNat) ((Kd.R_reads' (Kd.R_after (ok := (fun k_ => some k_ ≠ (v210 : Value).ownBlock)) (by (with_reducible repeat (first | apply Kd.R_alloc | apply Kd.R_drewN | apply Kd.R_drew)); exact Kd.R_mono HO_5.out (fun _ hk => ⟨hk.1.2, hk.2⟩)) hg hat)).2.2) KL36.out)); have n5_ := Aside0.mk (ho); clear HO_5; clear HO211; clear HB; clear HR208; clear HR218; clear HO214; have HO_5 := n0_; have HO211 := n1_; have HB := n2_; have HR208 := n3_; have HR218 := n4_; have HO221 := n5_; clear n0_ n1_ n2_ n3_ n4_ n5_; clear ho hb hg hat; obtain ⟨Ao39, co39, eo39⟩ := Kd.R_slice HO211.out; subst eo39) | ((with_reducible refine gate_builtin (b := .append) (xs := #[.tmp 53, .tmp 54]) rfl ?_); at_builtin; refine Kd.R_append_rows k72 (w0 := w) w.heap.size rfl (.tmp 53) (.tmp 54) 32 72 (.agg #[(.int .i64 0), (.int .i64 0), (.int .i64 0), (.int .i64 0)]) 32 rfl Try.underlying32 info72 rfl (by decide) (by omega) v220 y219 y209 _ _ _ (fun k_ => some k_ ≠ (.slice (some ad197) x5_1.length co6 : Value).ownBlock ∧ some k_ ≠ (.slice Ao39 y209.length co39 : Value).ownBlock) (fun _ => False) rfl rfl ?aO ?aR (fun _ _ h => h) (fun _ h => h.elim) ?aF ?aB ?aS ?aL ?_; (case aR => repeat (first | exact (Kd.R_reads' HO211.out).2.2 | (with_reducible refine Kd.C_alloc ?_ _) | (with_reducible refine Kd.C_drewN ?_ _) | (with_reducible refine Kd.C_drew ?_))); (case aB => exact (bw_ HB).out); (case aF => exact (fun k_ hk => ⟨Kd.fresh' (Kd.R_lt (ra_ HO_5.out)) k_ hk, Kd.fresh' (Kd.R_lt (ra_ HO211.out)) k_ hk⟩)); (case aO => exact (ra_ HO221.out)); (case aS => exact (below_size (bw_ HB).out)); (case aL => have := LMc25.out; omega); intro v223 w38 ho hb hg hat; rw [← Ny222.out] at ho; have n0_ := Aside0.mk (Kd.R_after (ok := (fun k_ => some k_ ≠ (.slice Ao39 y209.length co39 : Value).ownBlock)) (ra_ HO_5.out) hg hat); have n1_ := Aside0.mk (Kd.R_after (ok := (fun k_ => some k_ ≠ (.slice (some ad197) x5_1.length co6 : Value).ownBlock)) (ra_ HO211.out) hg hat); have n2_ := Aside0.mk (hb); have n3_ := Aside0.mk ((show Kd.C k72 w38 A30 y205.length y205 from by rw [Ny205.out, KA30.out]; exact Kd.C_drop (m := (x7_2 : Int).toNat) (c := co6) ((Kd.R_reads' (Kd.R_after (ok := (fun k_ => some k_ ≠ (.slice Ao39 y209.length co39 : Value).ownBlock)) (ra_ HO_5.out) hg hat)).2.2) KL30.out ((Kd.R_reads' (Kd.R_after (ok := (fun k_ => some k_ ≠ (.slice Ao39 y209.length co39 : Value).ownBlock)) (ra_ HO_5.out) hg hat)).2.1))); have n4_ := Aside0.mk ((show Kd.C k72 w38 (some ad197) y215.length y215 from by rw [Ny215.out]; exact Kd.C_take (m := (x7_2 : Int).toNat) ((Kd.R_reads' (Kd.R_after (ok := (fun k_ => some k_ ≠ (.slice Ao39 y209.length co39 : Value).ownBlock)) (ra_ HO_5.out) hg hat)).2.2) KL36.out)); have n5_ := Aside0.mk (ho); clear HO_5; clear HO211; clear HB; clear HR208; clear HR218; clear HO221; have HO_5 := n0_; have HO211 := n1_; have HB := n2_; have HR208 := n3_; have HR218 := n4_; have HO224 := n5_; clear n0_ n1_ n2_ n3_ n4_ n5_; clear ho hb hg hat))
          go_roundg k2
          case measure => have := HK1.out; have := HK2.out; omega
          case rel => exact ⟨(y222), (wrap64 (x6_1 + 1)), en_, H', ⟨by have := HK1.out; have := HK2.out; omega⟩, ⟨by (with_reducible repeat (first | apply Kd.R_alloc | apply Kd.R_drewN | apply Kd.R_drew)); exact Kd.R_mono HO224.out (fun _ hk => trivial)⟩, bw_ HB⟩
         rw [if_neg c25] at H
         exact absurd H (by simp)
        rw [if_neg c24] at H
        exact absurd H (by simp)
       rw [if_neg c21] at H
       exact absurd H (by simp)
      rw [if_neg c20] at H
      exact absurd H (by simp)
     rw [if_neg c19] at H
     exact absurd H (by simp)
    replace H := imn_ H
    obtain ⟨c40b0, H⟩ := H
    replace H := iln_ H
    obtain ⟨c41b0, H⟩ := H
    obtain ⟨y226, hy226⟩ : ∃ y_ : List (S72), y_ = (([(⟨(⟨(rd_T72 l1 x6_1).f0.f0, (rd_T72 l1 x6_1).f0.f1, (rd_T72 l1 x6_1).f0.f2⟩ : S31), (rd_T72 l1 x6_1).f1⟩ : S72)] : List (S72))) := ⟨_, rfl⟩
    replace H : (if 0 ≤ x7_2 then (if x7_2 ≤ (x5_1.length : Int) then ((some (x5_1.drop (x7_2 : Int).toNat : List (S72))).bind fun y229 => (if y226.length + y229.length < 4398046511104 then ((some (y226 ++ y229 : List (S72))).bind fun y233 => ((some (([] : List (S72)) : List (S72))).bind fun y236 => ((some (x5_1.take (x7_2 : Int).toNat : List (S72))).bind fun y239 => (if y236.length + y239.length < 4398046511104 then ((some (y236 ++ y239 : List (S72))).bind fun y243 => (if y243.length + y233.length < 4398046511104 then (spec_l08Sorted.l0 k2 a0 l1 (y243 ++ y233) (wrap64 (x6_1 + 1))) else (none))) else (none))))) else (none))) else (none)) else (none)) = some r := by first | (rw [hy226]; with_reducible exact H) | (have H2_ := (Option.bind_some _ _).symm.trans H; rw [hy226]; with_reducible exact H2_) | (have H2_ := (Option.bind_some _ _).symm.trans H; with_reducible exact H2_) | with_reducible exact H | (rw [hy226]; exact H) | exact H
    have Ny226 := Aside0.mk hy226
    clear hy226
    by_cases c42 : 0 ≤ x7_2
    ·rw [if_pos c42] at H
     have c42b0 := eq_true c42
     have c42b1 : decide (0 ≤ x7_2) = true := decide_eq_true c42
     clear c42
     by_cases c43 : x7_2 ≤ (x5_1.length : Int)
     ·rw [if_pos c43] at H
      have c43b0 := eq_true c43
      have c43b1 : decide (x7_2 ≤ (x5_1.length : Int)) = true := decide_eq_true c43
      clear c43
      obtain ⟨y229, hy229⟩ : ∃ y_ : List (S72), y_ = (x5_1.drop (x7_2 : Int).toNat) := ⟨_, rfl⟩
      replace H : (if y226.length + y229.length < 4398046511104 then ((some (y226 ++ y229 : List (S72))).bind fun y233 => ((some (([] : List (S72)) : List (S72))).bind fun y236 => ((some (x5_1.take (x7_2 : Int).toNat : List (S72))).bind fun y239 => (if y236.length + y239.length < 4398046511104 then ((some (y236 ++ y239 : List (S72))).bind fun y243 => (if y243.length + y233.length < 4398046511104 then (spec_l08Sorted.l0 k2 a0 l1 (y243 ++ y233) (wrap64 (x6_1 + 1))) else (none))) else (none))))) else (none)) = some r := by first | (rw [hy229]; with_reducible exact H) | (have H2_ := (Option.bind_some _ _).symm.trans H; rw [hy229]; with_reducible exact H2_) | (have H2_ := (Option.bind_some _ _).symm.trans H; with_reducible exact H2_) | with_reducible exact H | (rw [hy229]; exact H) | exact H
      have Ny229 := Aside0.mk hy229
      clear hy229
      by_cases c44 : y226.length + y229.length < 4398046511104
      ·rw [if_pos c44] at H
       have LMc44 := Aside0.mk c44
       clear c44
       obtain ⟨y233, hy233⟩ : ∃ y_ : List (S72), y_ = (y226 ++ y229) := ⟨_, rfl⟩
       replace H : ((some (([] : List (S72)) : List (S72))).bind fun y236 => ((some (x5_1.take (x7_2 : Int).toNat : List (S72))).bind fun y239 => (if y236.length + y239.length < 4398046511104 then ((some (y236 ++ y239 : List (S72))).bind fun y243 => (if y243.length + y233.length < 4398046511104 then (spec_l08Sorted.l0 k2 a0 l1 (y243 ++ y233) (wrap64 (x6_1 + 1))) else (none))) else (none)))) = some r := by first | (rw [hy233]; with_reducible exact H) | (have H2_ := (Option.bind_some _ _).symm.trans H; rw [hy233]; with_reducible exact H2_) | (have H2_ := (Option.bind_some _ _).symm.trans H; with_reducible exact H2_) | with_reducible exact H | (rw [hy233]; exact H) | exact H
       have Ny233 := Aside0.mk hy233
       clear hy233
       obtain ⟨y236, hy236⟩ : ∃ y_ : List (S72), y_ = (([] : List (S72))) := ⟨_, rfl⟩
       replace H : ((some (x5_1.take (x7_2 : Int).toNat : List (S72))).bind fun y239 => (if y236.length + y239.length < 4398046511104 then ((some (y236 ++ y239 : List (S72))).bind fun y243 => (if y243.length + y233.length < 4398046511104 then (spec_l08Sorted.l0 k2 a0 l1 (y243 ++ y233) (wrap64 (x6_1 + 1))) else (none))) else (none))) = some r := by first | (rw [hy236]; with_reducible exact H) | (have H2_ := (Option.bind_some _ _).symm.trans H; rw [hy236]; with_reducible exact H2_) | (have H2_ := (Option.bind_some _ _).symm.trans H; with_reducible exact H2_) | with_reducible exact H | (rw [hy236]; exact H) | exact H
       have Ny236 := Aside0.mk hy236
       clear hy236
       have c45b0 := eq_true (od_ : 0 ≤ x7_2)
       have c46b0 := eq_true (od_ : x7_2 ≤ (x5_1.length : Int))
       obtain ⟨y239, hy239⟩ : ∃ y_ : List (S72), y_ = (x5_1.take (x7_2 : Int).toNat) := ⟨_, rfl⟩
       replace H : (if y236.length + y239.length < 4398046511104 then ((some (y236 ++ y239 : List (S72))).bind fun y243 => (if y243.length + y233.length < 4398046511104 then (spec_l08Sorted.l0 k2 a0 l1 (y243 ++ y233) (wrap64 (x6_1 + 1))) else (none))) else (none)) = some r := by first | (rw [hy239]; with_reducible exact H) | (have H2_ := (Option.bind_some _ _).symm.trans H; rw [hy239]; with_reducible exact H2_) | (have H2_ := (Option.bind_some _ _).symm.trans H; with_reducible exact H2_) | with_reducible exact H | (rw [hy239]; exact H) | exact H
       have Ny239 := Aside0.mk hy239
       clear hy239
       by_cases c47 : y236.length + y239.length < 4398046511104
       ·rw [if_pos c47] at H
        have LMc47 := Aside0.mk c47
        clear c47
        obtain ⟨y243, hy243⟩ : ∃ y_ : List (S72), y_ = (y236 ++ y239) := ⟨_, rfl⟩
        replace H : (if y243.length + y233.length < 4398046511104 then (spec_l08Sorted.l0 k2 a0 l1 (y243 ++ y233) (wrap64 (x6_1 + 1))) else (none)) = some r := by first | (rw [hy243]; with_reducible exact H) | (have H2_ := (Option.bind_some _ _).symm.trans H; rw [hy243]; with_reducible exact H2_) | (have H2_ := (Option.bind_some _ _).symm.trans H; with_reducible exact H2_) | with_reducible exact H | (rw [hy243]; exact H) | exact H
        have Ny243 := Aside0.mk hy243
        clear hy243
        by_cases c48 : y243.length + y233.length < 4398046511104
        ·rw [if_pos c48] at H
         have LMc48 := Aside0.mk c48
         clear c48
         obtain ⟨y246, hy246⟩ : ∃ y_ : List (S72), y_ = (y243 ++ y233) := ⟨_, rfl⟩
         replace H : (spec_l08Sorted.l0 k2 a0 l1 y246 (wrap64 (x6_1 + 1))) = some r := by first | (rw [hy246]; with_reducible exact H) | (have H2_ := (Option.bind_some _ _).symm.trans H; rw [hy246]; with_reducible exact H2_) | (have H2_ := (Option.bind_some _ _).symm.trans H; with_reducible exact H2_) | with_reducible exact H | (rw [hy246]; exact H) | exact H
         have Ny246 := Aside0.mk hy246
         clear hy246
         have H' := Aside0.mk H
         clear H
         try go_wp2
         replace HO_5 := Aside0.mk (Kd.R_drew HO_5.out)
         replace HB := be_ HB
         refine start_ (n := 20) (S := fun w' => True) (ds := []) (bv_ 20 0) (by kernel_rfl) rfl rfl trivial (fun hHeld => ?_); refine with_tabW spec_l08Sorted.tab6 spec_l08Sorted.bits6 (fun HT_ HW_ => ?_)
         generalize wr.drew = w49 at HO_5 HB hHeld ⊢
         refine px_ HT_ 0 18 1 ?_
         refine px_ HT_ 1 19 3 ?_
         refine px_ HT_ 2 20 7 ?_
         refine pv_ HT_ 3 (some 21) (bv_ 20 15) ?_
         refine pv_ HT_ 4 (some 22) (bv_ 20 31) ?_
         refine pv_ HT_ 5 (some 23) (bv_ 20 63) ?_
         refine pv_ HT_ 6 (some 24) (bv_ 20 127) ?_
         refine pv_ HT_ 7 (some 25) (bv_ 20 255) ?_
         refine pv_ HT_ 8 (some 26) (bv_ 20 511) ?_
         refine pv_ HT_ 9 (some 27) (bv_ 20 1023) ?_
         refine pv_ HT_ 10 (some 28) (bv_ 20 2047) ?_
         refine pv_ HT_ 11 (some 29) (bv_ 20 4095) ?_
         refine pv_ HT_ 12 (some 30) (bv_ 20 8191) ?_
         refine pv_ HT_ 13 (some 31) (bv_ 20 16383) ?_
         refine pv_ HT_ 14 (some 32) (bv_ 20 32767) ?_
         refine pv_ HT_ 15 (some 33) (bv_ 20 65535) ?_
         refine pv_ HT_ 16 (some 34) (bv_ 20 131071) ?_
         refine pv_ HT_ 17 (some 35) (bv_ 20 262143) ?_
         refine pv_ HT_ 18 (some 36) (bv_ 20 524287) ?_
         refine px_ HT_ 19 37 1048575 ?_
         refine done_ (done_of HT_.out (by kernel_rfl)) ?_
         try go_wp2
         replace HO_5 := Aside0.mk (Kd.R_drew HO_5.out)
         replace HB := be_ HB
         have p225 : 0 ≤ (x6_1 : Int) := od_
         have q225 : x6_1 < (l1.length : Int) := od_
         obtain ⟨ad225, e225, hx225_0, hx225_1, hx225_2, hx225_3⟩ := at_T72 HR1.out x6_1 p225 q225
         have hw225_3 := hx225_3
         have hw225_2 := hx225_2
         have hw225_1 := hx225_1
         have hw225_0 := hx225_0
         cases e225
         replace hx225_0 := clTr HB.out hx225_0
         replace hx225_1 := clTr HB.out hx225_1
         replace hx225_2 := clTr HB.out hx225_2
         replace hx225_3 := clTr HB.out hx225_3
         replace p225 := eq_true p225
         replace q225 := eq_true q225
         have q51 : (x7_2 : Int) ≤ ((x5_1.length : Int) : Int) := od_
         obtain ⟨i051, hi051, _, hsz51, _⟩ := info_parts info72
         have hroom51 : x5_1.length ≤ co6 := (Kd.R_reads' HO_5.out).2.1
         have hC51 : Kd.C k72 _ Ao6 x5_1.length x5_1 := (Kd.R_reads' HO_5.out).2.2
         have q051 : (0 : Int) ≤ (x7_2 : Int) := od_
         have hcut51 := cut_from (P := Try.prog) 32 72 .i64 Try.underlying32 hi051 4 hsz51 Ao6 x5_1.length co6 x7_2 q051 q51
         have hr51 := Kd.C_drop (m := (x7_2 : Int).toNat) (c := co6) hC51 (by omega) hroom51
         obtain ⟨A51, hA51⟩ : ∃ A1, A1 = (if co6 = (x7_2 : Int).toNat then Ao6 else (Ao6 : Option Addr).map (·.add ((x7_2 : Int).toNat * 4))) := ⟨_, rfl⟩
         obtain ⟨c51, hc51⟩ : ∃ c1, c1 = co6 - (x7_2 : Int).toNat := ⟨_, rfl⟩
         have hy51 : y229.length = x5_1.length - (x7_2 : Int).toNat := (by rw [Ny229.out, List.length_drop] <;> omega)
         rw [show (x5_1).drop (x7_2 : Int).toNat = y229 from Ny229.out.symm] at hr51
         replace hr51 : Kd.C k72 _ A51 y229.length y229 := (by rw [hA51]; exact hr51)
         rw [← hy51, ← hA51, ← hc51] at hcut51
         have HR232 := Aside0.mk hr51
         have HC232 := Aside0.mk (show y229.length ≤ c51 from by rw [hy51, hc51]; exact Nat.sub_le_sub_right hroom51 _)
         clear hr51 hC51 hroom51 hi051 hsz51 hc51
         have KY51 := Aside0.mk hy51
         have KA51 := Aside0.mk hA51
         clear hy51 hA51
         have KL51 := Aside0.mk (show (x7_2 : Int).toNat ≤ x5_1.length from by omega)
         replace q51 := eq_true q51
         refine start_ (n := 10) (S := fun w' => w'.cell? (ad225.add ((x6_1).toNat * 4)) = some (.int .i64 ((rd_T72 l1 x6_1).f0.f0)) ∧ w'.cell? ⟨(ad225.add ((x6_1).toNat * 4)).block, (ad225.add ((x6_1).toNat * 4)).off + 1, none⟩ = some (.int .i64 ((rd_T72 l1 x6_1).f0.f1)) ∧ w'.cell? ⟨(ad225.add ((x6_1).toNat * 4)).block, (ad225.add ((x6_1).toNat * 4)).off + 2, none⟩ = some (.int .i64 ((rd_T72 l1 x6_1).f0.f2)) ∧ w'.cell? ⟨(ad225.add ((x6_1).toNat * 4)).block, (ad225.add ((x6_1).toNat * 4)).off + 3, none⟩ = some (.int .i64 ((rd_T72 l1 x6_1).f1))) (ds := []) (bv_ 10 0) (by kernel_rfl) rfl rfl ⟨(clTr HB.out hw225_0 :), (clTr HB.out hw225_1 :), (clTr HB.out hw225_2 :), (clTr HB.out hw225_3 :)⟩ (fun hHeld => ?_); refine with_tabW spec_l08Sorted.tab8 spec_l08Sorted.bits8 (fun HT_ HW_ => ?_)
         generalize w49.drew = w50 at HO_5 HB HR232 hx225_0 hx225_1 hx225_2 hx225_3 hHeld ⊢
         refine px_ HT_ 0 40 1 ?_
         refine px_ HT_ 1 41 3 ?_
         refine px_ HT_ 2 42 7 ?_
         refine px_ HT_ 5 45 39 ?_
         refine px_ HT_ 6 46 103 ?_
         refine px_ HT_ 7 47 231 ?_
         refine ta_ HT_ HW_ 3 (some 43) (bv_ 10 239) hHeld ?_ (hy := by rintro w' ⟨s0, s1, s2, s3⟩; go_simp; with_reducible rfl)
         refine on_ HT_ 4 (some 44) (bv_ 10 255) (fun K hK => ?_)
         refine Kd.R_lit_step k72 _ 72 ?hg (N := 44) ?hd (xs := ([(⟨(⟨(rd_T72 l1 x6_1).f0.f0, (rd_T72 l1 x6_1).f0.f1, (rd_T72 l1 x6_1).f0.f2⟩ : S31), (rd_T72 l1 x6_1).f1⟩ : S72)] : List (S72))) (inner := [.int .i64 ((rd_T72 l1 x6_1).f0.f0), .int .i64 ((rd_T72 l1 x6_1).f0.f1), .int .i64 ((rd_T72 l1 x6_1).f0.f2), .int .i64 ((rd_T72 l1 x6_1).f1)]) (ok := fun _ => True) (okp := fun _ => True) ?hr ?hp (fun _ hk => hk) trivial (Below.refl _ _) (Nat.le_refl _) (by simp) ?_; (case hd => rfl); (case hg => rfl); (case hr => first | (go_simp; done) | (go_simp; rfl)); (case hp => exact (Reps.c4 (show Kd.M k72 _ _ _ (⟨(⟨(rd_T72 l1 x6_1).f0.f0, (rd_T72 l1 x6_1).f0.f1, (rd_T72 l1 x6_1).f0.f2⟩ : S31), (rd_T72 l1 x6_1).f1⟩ : S72) [.int .i64 ((rd_T72 l1 x6_1).f0.f0), .int .i64 ((rd_T72 l1 x6_1).f0.f1), .int .i64 ((rd_T72 l1 x6_1).f0.f2), .int .i64 ((rd_T72 l1 x6_1).f1)] from (k72_mkM _ _ _ (⟨(⟨(rd_T72 l1 x6_1).f0.f0, (rd_T72 l1 x6_1).f0.f1, (rd_T72 l1 x6_1).f0.f2⟩ : S31), (rd_T72 l1 x6_1).f1⟩ : S72) )) (Reps.none _ _)))
         intro v227 w52 ho53 hb hg_ hnew_
         clear hg_ hnew_
         (first | rw [← Ny226.out] at ho53 | (simp only [Int.reduceToNat] at ho53; rw [← Ny226.out] at ho53))
         have HO228 := Aside0.mk (Kd.R_lower (Kd.R_new' ho53 (Kd.R_lt (ra_ HO_5.out))) (below_size (bw_ HB).out))
         replace HO_5 := Aside0.mk (Kd.R_elder' (ra_ HO_5.out) (Kd.R_base ho53) hb)
         replace HR232 := Aside0.mk (Kd.C_below (by repeat (first | (with_reducible exact HR232.out) | (with_reducible refine Kd.C_alloc ?_ _) | (with_reducible refine Kd.C_drewN ?_ _) | (with_reducible refine Kd.C_drew ?_) | exact HR232.out)) hb)
         replace HB := bt_ HB hb
         clear hb ho53
         refine hK.out _ _ ⟨(clTr HB.out hw225_0 :), (clTr HB.out hw225_1 :), (clTr HB.out hw225_2 :), (clTr HB.out hw225_3 :)⟩ (fun hHeld => ?_)
         clear hK K
         refine nm_ (some 44) ?_
         refine on_ HT_ 8 (some 48) (bv_ 10 511) (fun K hK => ?_)
         refine Kd.R_append_rows_step k72 (w0 := w) w.heap.size (by rfl) (.tmp 44) (.tmp 47) 32 72 (.agg #[(.int .i64 0), (.int .i64 0), (.int .i64 0), (.int .i64 0)]) 32 rfl Try.underlying32 info72 rfl (by decide) (by omega) v227 y226 y229 _ _ _ (fun k_ => some k_ ≠ (.slice Ao6 x5_1.length co6 : Value).ownBlock) (fun _ => False) rfl rfl ?aO ?aR (fun _ _ h => h) (fun _ h => h.elim) ?aF ?aB ?aS ?aL ?_
         (case aR => repeat (first | exact (by repeat (first | (with_reducible exact HR232.out) | (with_reducible refine Kd.C_alloc ?_ _) | (with_reducible refine Kd.C_drewN ?_ _) | (with_reducible refine Kd.C_drew ?_) | exact HR232.out)) | (with_reducible refine Kd.C_alloc ?_ _) | (with_reducible refine Kd.C_drewN ?_ _) | (with_reducible refine Kd.C_drew ?_)))
         (case aB => exact (bw_ HB).out)
         (case aF => exact (fun k_ hk => Kd.fresh' (Kd.R_lt (ra_ HO_5.out)) k_ hk))
         (case aO => exact (by (with_reducible repeat (first | apply Kd.R_alloc | apply Kd.R_drewN | apply Kd.R_drew)); exact Kd.R_mono HO228.out (fun _ hk => hk.2)))
         (case aS => exact (below_size (bw_ HB).out))
         (case aL => have := LMc44.out; omega)
         intro v234 w54 ho hb hg hat
         rw [← Ny233.out] at ho
         have n0_ := Aside0.mk (Kd.R_after (ok := (fun _ => True)) (ra_ HO_5.out) hg hat)
         have n1_ := Aside0.mk (hb)
         have n2_ := Aside0.mk ((show Kd.C k72 w54 A51 y229.length y229 from by rw [Ny229.out, KA51.out]; exact Kd.C_drop (m := (x7_2 : Int).toNat) (c := co6) ((Kd.R_reads' (Kd.R_after (ok := (fun _ => True)) (ra_ HO_5.out) hg hat)).2.2) KL51.out ((Kd.R_reads' (Kd.R_after (ok := (fun _ => True)) (ra_ HO_5.out) hg hat)).2.1)))
         have n3_ := Aside0.mk (ho)
         clear HO_5
         clear HB
         clear HR232
         clear HO228
         have HO_5 := n0_
         have HB := n1_
         have HR232 := n2_
         have HO235 := n3_
         clear n0_ n1_ n2_ n3_
         clear ho hb hg hat
         refine hK.out _ _ ⟨(clTr HB.out hw225_0 :), (clTr HB.out hw225_1 :), (clTr HB.out hw225_2 :), (clTr HB.out hw225_3 :)⟩ (fun hHeld => ?_)
         clear hK K
         refine nm_ (some 48) ?_
         refine px_ HT_ 9 8 1023 ?_
         refine done_ (done_of HT_.out (by kernel_rfl)) ?_
         try go_wp2_with (first | ((refine gd_ 49 ?_); refine Kd.R_lit k72 _ 72 ?hg (N := 49) ?hd (xs := ([] : List (S72))) (inner := []) (ok := fun _ => True) (okp := fun _ => True) ?hr ?hp (fun _ hk => hk) trivial (Below.refl _ _) (Nat.le_refl _) (by simp) ?_; (case hd => rfl); (case hg => rfl); (case hr => first | (go_simp; done) | (go_simp; rfl)); (case hp => exact (Reps.none _ _)); intro v237 w55 ho56 hb hg_ hnew_; clear hg_ hnew_; (first | rw [← Ny236.out] at ho56 | (simp only [Int.reduceToNat] at ho56; rw [← Ny236.out] at ho56)); have HO238 := Aside0.mk (Kd.R_lower (Kd.R_new' (Kd.R_new' ho56 (Kd.R_lt (ra_ HO_5.out))) (Kd.R_lt (ra_ HO235.out))) (below_size (bw_ HB).out)); replace HO_5 := Aside0.mk (Kd.R_elder' (ra_ HO_5.out) (Kd.R_base ho56) hb); replace HO235 := Aside0.mk (Kd.R_elder' (ra_ HO235.out) (Kd.R_base ho56) hb); replace HR232 := Aside0.mk (Kd.C_below (by repeat (first | (with_reducible exact HR232.out) | (with_reducible refine Kd.C_alloc ?_ _) | (with_reducible refine Kd.C_drewN ?_ _) | (with_reducible refine Kd.C_drew ?_) | exact HR232.out)) hb); replace HB := bt_ HB hb; clear hb ho56; have q57 : (x7_2 : Int) ≤ ((x5_1.length : Int) : Int) := od_; obtain ⟨i057, hi057, _, hsz57, _⟩ := info_parts info72; have hroom57 : x5_1.length ≤ co6 := (Kd.R_reads' HO_5.out).2.1; have hC57 : Kd.C k72 _ Ao6 x5_1.length x5_1 := (Kd.R_reads' HO_5.out).2.2; have hcut57 := cut_to (P := Try.prog) 32 72 .i64 Try.underlying32 hi057 Ao6 x5_1.length co6 x7_2 od_ q57 hroom57; have hr57 := Kd.C_take (m := (x7_2 : Int).toNat) hC57 (by omega); have hy57 : y239.length = (x7_2 : Int).toNat := (by rw [Ny239.out, List.length_take]; omega); rw [← Ny239.out] at hr57; rw [← hy57] at hcut57; have HR242 := Aside0.mk hr57; have HC242 := Aside0.mk (show y239.length ≤ co6 from by omega); clear hr57 hC57 hroom57 hi057 hsz57; have KY57 := Aside0.mk hy57; clear hy57; have KL57 := Aside0.mk (show (x7_2 : Int).toNat ≤ x5_1.length from by omega); replace q57 := eq_true q57) | ((with_reducible refine gate_builtin (b := .append) (xs := #[.tmp 49, .tmp 52]) rfl ?_); at_builtin; refine Kd.R_append_rows k72 (w0 := w) w.heap.size rfl (.tmp 49) (.tmp 52) 32 72 (.agg #[(.int .i64 0), (.int .i64 0), (.int .i64 0), (.int .i64 0)]) 32 rfl Try.underlying32 info72 rfl (by decide) (by omega) v237 y236 y239 _ _ _ (fun k_ => some k_ ≠ (.slice Ao6 x5_1.length co6 : Value).ownBlock ∧ some k_ ≠ (v234 : Value).ownBlock) (fun _ => False) rfl rfl ?aO ?aR (fun _ _ h => h) (fun _ h => h.elim) ?aF ?aB ?aS ?aL ?_; (case aR => repeat (first | exact (by repeat (first | (with_reducible exact HR242.out) | (with_reducible refine Kd.C_alloc ?_ _) | (with_reducible refine Kd.C_drewN ?_ _) | (with_reducible refine Kd.C_drew ?_) | exact HR242.out)) | (with_reducible refine Kd.C_alloc ?_ _) | (with_reducible refine Kd.C_drewN ?_ _) | (with_reducible refine Kd.C_drew ?_))); (case aB => exact (bw_ HB).out); (case aF => exact (fun k_ hk => ⟨Kd.fresh' (Kd.R_lt (ra_ HO_5.out)) k_ hk, Kd.fresh' (Kd.R_lt (ra_ HO235.out)) k_ hk⟩)); (case aO => exact (by (with_reducible repeat (first | apply Kd.R_alloc | apply Kd.R_drewN | apply Kd.R_drew)); exact Kd.R_mono HO238.out (fun _ hk => ⟨hk.1.2, hk.2⟩))); (case aS => exact (below_size (bw_ HB).out)); (case aL => have := LMc47.out; omega); intro v244 w58 ho hb hg hat; rw [← Ny243.out] at ho; have n0_ := Aside0.mk (Kd.R_after (ok := (fun k_ => some k_ ≠ (v234 : Value).ownBlock)) (by (with_reducible repeat (first | apply Kd.R_alloc | apply Kd.R_drewN | apply Kd.R_drew)); exact Kd.R_mono HO_5.out (fun _ hk => ⟨hk.1.2, hk.2⟩)) hg hat); have n1_ := Aside0.mk (Kd.R_after (ok := (fun k_ => some k_ ≠ (.slice Ao6 x5_1.length co6 : Value).ownBlock)) (ra_ HO235.out) hg hat); have n2_ := Aside0.mk (hb); have n3_ := Aside0.mk ((show Kd.C k72 w58 A51 y229.length y229 from by rw [Ny229.out, KA51.out]; exact Kd.C_drop (m := (x7_2 : Int).toNat) (c := co6) ((Kd.R_reads' (Kd.R_after (ok := (fun k_ => some k_ ≠ (v234 : Value).ownBlock)) (by (with_reducible repeat (first | apply Kd.R_alloc | apply Kd.R_drewN | apply Kd.R_drew)); exact Kd.R_mono HO_5.out (fun _ hk => ⟨hk.1.2, hk.2⟩)) hg hat)).2.2) KL51.out ((Kd.R_reads' (Kd.R_after (ok := (fun k_ => some k_ ≠ (v234 : Value).ownBlock)) (by (with_reducible repeat (first | apply Kd.R_alloc | apply Kd.R_drewN | apply Kd.R_drew)); exact Kd.R_mono HO_5.out (fun _ hk => ⟨hk.1.2, hk.2⟩)) hg hat)).2.1))); have n4_ := Aside0.mk ((show Kd.C k72 w58 Ao6 y239.length y239 from by rw [Ny239.out]; exact Kd.C_take (m := (x7_2 : Int).toNat) ((Kd.R_reads' (Kd.R_after (ok := (fun k_ => some k_ ≠ (v234 : Value).ownBlock)) (by (with_reducible repeat (first | apply Kd.R_alloc | apply Kd.R_drewN | apply Kd.R_drew)); exact Kd.R_mono HO_5.out (fun _ hk => ⟨hk.1.2, hk.2⟩)) hg hat)).2.2) KL57.out)); have n5_ := Aside0.mk (ho); clear HO_5; clear HO235; clear HB; clear HR232; clear HR242; clear HO238; have HO_5 := n0_; have HO235 := n1_; have HB := n2_; have HR232 := n3_; have HR242 := n4_; have HO245 := n5_; clear n0_ n1_ n2_ n3_ n4_ n5_; clear ho hb hg hat; obtain ⟨Ao60, co60, eo60⟩ := Kd.R_slice HO235.out; subst eo60) | ((with_reducible refine gate_builtin (b := .append) (xs := #[.tmp 53, .tmp 54]) rfl ?_); at_builtin; refine Kd.R_append_rows k72 (w0 := w) w.heap.size rfl (.tmp 53) (.tmp 54) 32 72 (.agg #[(.int .i64 0), (.int .i64 0), (.int .i64 0), (.int .i64 0)]) 32 rfl Try.underlying32 info72 rfl (by decide) (by omega) v244 y243 y233 _ _ _ (fun k_ => some k_ ≠ (.slice Ao6 x5_1.length co6 : Value).ownBlock ∧ some k_ ≠ (.slice Ao60 y233.length co60 : Value).ownBlock) (fun _ => False) rfl rfl ?aO ?aR (fun _ _ h => h) (fun _ h => h.elim) ?aF ?aB ?aS ?aL ?_; (case aR => repeat (first | exact (Kd.R_reads' HO235.out).2.2 | (with_reducible refine Kd.C_alloc ?_ _) | (with_reducible refine Kd.C_drewN ?_ _) | (with_reducible refine Kd.C_drew ?_))); (case aB => exact (bw_ HB).out); (case aF => exact (fun k_ hk => ⟨Kd.fresh' (Kd.R_lt (ra_ HO_5.out)) k_ hk, Kd.fresh' (Kd.R_lt (ra_ HO235.out)) k_ hk⟩)); (case aO => exact (ra_ HO245.out)); (case aS => exact (below_size (bw_ HB).out)); (case aL => have := LMc48.out; omega); intro v247 w59 ho hb hg hat; rw [← Ny246.out] at ho; have n0_ := Aside0.mk (Kd.R_after (ok := (fun k_ => some k_ ≠ (.slice Ao60 y233.length co60 : Value).ownBlock)) (ra_ HO_5.out) hg hat); have n1_ := Aside0.mk (Kd.R_after (ok := (fun k_ => some k_ ≠ (.slice Ao6 x5_1.length co6 : Value).ownBlock)) (ra_ HO235.out) hg hat); have n2_ := Aside0.mk (hb); have n3_ := Aside0.mk ((show Kd.C k72 w59 A51 y229.length y229 from by rw [Ny229.out, KA51.out]; exact Kd.C_drop (m := (x7_2 : Int).toNat) (c := co6) ((Kd.R_reads' (Kd.R_after (ok := (fun k_ => some k_ ≠ (.slice Ao60 y233.length co60 : Value).ownBlock)) (ra_ HO_5.out) hg hat)).2.2) KL51.out ((Kd.R_reads' (Kd.R_after (ok := (fun k_ => some k_ ≠ (.slice Ao60 y233.length co60 : Value).ownBlock)) (ra_ HO_5.out) hg hat)).2.1))); have n4_ := Aside0.mk ((show Kd.C k72 w59 Ao6 y239.length y239 from by rw [Ny239.out]; exact Kd.C_take (m := (x7_2 : Int).toNat) ((Kd.R_reads' (Kd.R_after (ok := (fun k_ => some k_ ≠ (.slice Ao60 y233.length co60 : Value).ownBlock)) (ra_ HO_5.out) hg hat)).2.2) KL57.out)); have n5_ := Aside0.mk (ho); clear HO_5; clear HO235; clear HB; clear HR232; clear HR242; clear HO245; have HO_5 := n0_; have HO235 := n1_; have HB := n2_; have HR232 := n3_; have HR242 := n4_; have HO248 := n5_; clear n0_ n1_ n2_ n3_ n4_ n5_; clear ho hb hg hat))
         go_roundg k2
         case measure => have := HK1.out; have := HK2.out; omega
         case rel => exact ⟨(y246), (wrap64 (x6_1 + 1)), en_, H', ⟨by have := HK1.out; have := HK2.out; omega⟩, ⟨by (with_reducible repeat (first | apply Kd.R_alloc | apply Kd.R_drewN | apply Kd.R_drew)); exact Kd.R_mono HO248.out (fun _ hk => trivial)⟩, bw_ HB⟩
        rw [if_neg c48] at H
        exact absurd H (by simp)
       rw [if_neg c47] at H
       exact absurd H (by simp)
      rw [if_neg c44] at H
      exact absurd H (by simp)
     rw [if_neg c43] at H
     exact absurd H (by simp)
    rw [if_neg c42] at H
    exact absurd H (by simp)
  obtain rfl := si_ H
  go_wp2
  go_ret
  exact ⟨_, es_, by (with_reducible repeat (first | apply Kd.R_alloc | apply Kd.R_drewN | apply Kd.R_drew)); exact HO_5.out, (bw_ HB).out⟩
end Go.Proofs.Ytdfcoebadjhjlaa.QI
