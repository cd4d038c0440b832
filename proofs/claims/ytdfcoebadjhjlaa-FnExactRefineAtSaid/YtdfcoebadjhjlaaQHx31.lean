import Derived.Test.YtdfcoebadjhjlaaQHx7
import Derived.Test.YtdfcoebadjhjlaaQHx27
namespace Go.Proofs.Ytdfcoebadjhjlaa.QH
open Go.RowKit Go.Proofs.YtdfcoebadjhjlaaW.PrintWords Go.Proofs.YtdfcoebadjhjlaaW.PrintLast Go.Proofs.YtdfcoebadjhjlaaW.PrintMore
attribute [local go_sem] isSome_setCell max2_int min2_int max_two min_two max_three min_three max_four min_four
set_option linter.unusedVariables false
set_option linter.unusedSimpArgs false

/-! ### spec_l08Sorted: function 61 -/
mutual
def spec_l08Sorted.l0 : Nat → Int → List (S72) → List (S72) → Int → Option ((List (S72)))
 | 0, _, _, _, _ => none
 | k + 1, x0, x1, x5, x6 => if x6 < (x1.length : Int) then (spec_l08Sorted.l1 k x0 x1 x5 x6 (x5.length : Int)) else (some x5)
def spec_l08Sorted.l1 : Nat → Int → List (S72) → List (S72) → Int → Int → Option ((List (S72)))
 | 0, _, _, _, _, _ => none
 | k + 1, x0, x1, x5, x6, x7 => if x7 > 0 then (if 0 ≤ (wrap64 (x7 - 1)) then (if (wrap64 (x7 - 1)) < (x5.length : Int) then ((spec_l08Key.f k x0 ((rd_T72 x5 (wrap64 (x7 - 1))).f0.f0) ((rd_T72 x5 (wrap64 (x7 - 1))).f0.f1) ((rd_T72 x5 (wrap64 (x7 - 1))).f0.f2)).bind fun t219 => (if 0 ≤ x6 then (if x6 < (x1.length : Int) then ((spec_l08Key.f k x0 ((rd_T72 x1 x6).f0.f0) ((rd_T72 x1 x6).f0.f1) ((rd_T72 x1 x6).f0.f2)).bind fun t221 => (if t219 > t221 then (spec_l08Sorted.l1 k x0 x1 x5 x6 (wrap64 (x7 - 1))) else ((some (([(⟨(⟨(rd_T72 x1 x6).f0.f0, (rd_T72 x1 x6).f0.f1, (rd_T72 x1 x6).f0.f2⟩ : S31), (rd_T72 x1 x6).f1⟩ : S72)] : List (S72)) : List (S72))).bind fun y223 => (if 0 ≤ x7 then (if x7 ≤ (x5.length : Int) then ((some (x5.drop (x7 : Int).toNat : List (S72))).bind fun y226 => (if y223.length + y226.length < 4398046511104 then ((some (y223 ++ y226 : List (S72))).bind fun y230 => ((some (([] : List (S72)) : List (S72))).bind fun y233 => ((some (x5.take (x7 : Int).toNat : List (S72))).bind fun y236 => (if y233.length + y236.length < 4398046511104 then ((some (y233 ++ y236 : List (S72))).bind fun y240 => (if y240.length + y230.length < 4398046511104 then (spec_l08Sorted.l0 k x0 x1 (y240 ++ y230) (wrap64 (x6 + 1))) else (none))) else (none))))) else (none))) else (none)) else (none))))) else (none)) else (none))) else (none)) else (none)) else (if 0 ≤ x6 then (if x6 < (x1.length : Int) then ((some (([(⟨(⟨(rd_T72 x1 x6).f0.f0, (rd_T72 x1 x6).f0.f1, (rd_T72 x1 x6).f0.f2⟩ : S31), (rd_T72 x1 x6).f1⟩ : S72)] : List (S72)) : List (S72))).bind fun y247 => (if 0 ≤ x7 then (if x7 ≤ (x5.length : Int) then ((some (x5.drop (x7 : Int).toNat : List (S72))).bind fun y250 => (if y247.length + y250.length < 4398046511104 then ((some (y247 ++ y250 : List (S72))).bind fun y254 => ((some (([] : List (S72)) : List (S72))).bind fun y257 => ((some (x5.take (x7 : Int).toNat : List (S72))).bind fun y260 => (if y257.length + y260.length < 4398046511104 then ((some (y257 ++ y260 : List (S72))).bind fun y264 => (if y264.length + y254.length < 4398046511104 then (spec_l08Sorted.l0 k x0 x1 (y264 ++ y254) (wrap64 (x6 + 1))) else (none))) else (none))))) else (none))) else (none)) else (none))) else (none)) else (none))
end
def spec_l08Sorted.f (k : Nat) (a0 : Int) (l1 : List (S72)) : Option ((List (S72))) := spec_l08Sorted.l0 k a0 l1 (([] : List (S72))) 0
def spec_l08Sorted.T6 : Bool × List (List Nat × List Nat) := (true, [([], []), ([0], [0]), ([1], [1]), ([2], [2]), ([2], [2]), ([2], [2]), ([5, 2], [2, 5]), ([4, 6, 2], [2, 4, 6]), ([7, 2], [2, 7]), ([8, 2], [2, 8]), ([3, 9, 2, 2], [2, 3, 9]), ([2], [2]), ([2], [2]), ([2], [2]), ([12, 13, 2], [2, 12, 13]), ([14, 2], [2, 14]), ([15, 2], [2, 15]), ([11, 16, 10, 2], [2, 11, 16]), ([10, 17, 2], [2, 10, 17]), ([2, 18], [2, 18])])
def spec_l08Sorted.B6 : List Nat := [0, 1, 3, 7, 7, 7, 39, 119, 247, 503, 1023, 7, 7, 7, 12295, 28679, 61447, 131071, 262143, 524287]
theorem spec_l08Sorted.tab6 : rtab .any (opsOf Try.f61 6) = spec_l08Sorted.T6 := by kernel_rfl
theorem spec_l08Sorted.bits6 : waitsOk spec_l08Sorted.T6.2 spec_l08Sorted.B6 = true := by kernel_rfl
def spec_l08Sorted.T8 : Bool × List (List Nat × List Nat) := (true, [([], []), ([], []), ([0, 1], [0, 1]), ([2], [2]), ([3], [3]), ([], []), ([], []), ([5, 6], [5, 6]), ([4, 7], [4, 7]), ([8, 8, 0, 1, 2, 3, 4, 5, 6, 7, 8], [8])])
def spec_l08Sorted.B8 : List Nat := [0, 0, 3, 7, 15, 0, 0, 96, 255, 511]
theorem spec_l08Sorted.tab8 : rtab .any (opsOf Try.f61 8) = spec_l08Sorted.T8 := by kernel_rfl
theorem spec_l08Sorted.bits8 : waitsOk spec_l08Sorted.T8.2 spec_l08Sorted.B8 = true := by kernel_rfl
set_option maxHeartbeats 8000000 in
set_option maxRecDepth 100000 in
theorem spec_l08Sorted.calls (k : Nat) (a0 : Int) (A1 : Option Addr) (c1 : Nat) (l1 : List (S72)) (r : List (S72)) (w : World) (hr1 : Kd.C k72 w A1 l1.length l1) (hc1 : l1.length ≤ c1) (h : spec_l08Sorted.f k a0 l1 = some r) :
  Calls Try.prog 61 #[.int .i64 a0, .slice A1 l1.length c1] w fun e w' => ∃ v0_ : Value, e = .returned (v0_) ∧ Kd.R k72 72 w' w.heap.size (fun _ => True) v0_ r ∧ Below w.heap.size w w' := by
 have hu72 := Try.underlying72
 have hu31 := Try.underlying31
 have HR1 := Aside0.mk hr1
 have HC1 := Aside0.mk hc1
 clear hr1 hc1
 have HB := Aside0.mk (Below.refl w.heap.size w)
 unfold spec_l08Sorted.f at h
 have H := h
 clear h
 obtain ⟨y215, hy215⟩ : ∃ y_ : List (S72), y_ = (([] : List (S72))) := ⟨_, rfl⟩
 replace H : (spec_l08Sorted.l0 k a0 l1 y215 0) = some r := by first | (rw [hy215]; with_reducible exact H) | (have H2_ := (Option.bind_some _ _).symm.trans H; rw [hy215]; with_reducible exact H2_) | (have H2_ := (Option.bind_some _ _).symm.trans H; with_reducible exact H2_) | with_reducible exact H | (rw [hy215]; exact H) | exact H
 have Ny215 := Aside0.mk hy215
 clear hy215
 have H' := Aside0.mk H
 clear H
 go_enter Try.func61, Try.ntmps61
 go_wp2_with (first | ((refine gd_ 9 ?_); refine Kd.R_lit k72 _ 72 ?hg (N := 9) ?hd (xs := ([] : List (S72))) (inner := []) (ok := fun _ => True) (okp := fun _ => True) ?hr ?hp (fun _ hk => hk) trivial (Below.refl _ _) (Nat.le_refl _) (by simp) ?_; (case hd => rfl); (case hg => rfl); (case hr => first | (go_simp; done) | (go_simp; rfl)); (case hp => exact (Reps.none _ _)); intro v216 w3 ho4 hb hg_ hnew_; clear hg_ hnew_; (first | rw [← Ny215.out] at ho4 | (simp only [Int.reduceToNat] at ho4; rw [← Ny215.out] at ho4)); have HO217 := Aside0.mk (Kd.R_lower ho4 (below_size (bw_ HB).out)); replace HB := bt_ HB hb; clear hb ho4))
 go_loopg [5, 6] k (fun kq v5 v6 w' => ∃ (x5_1 : List (S72)) (x6_1 : Int), v6 = .int .i64 x6_1 ∧ Aside0 (spec_l08Sorted.l0 kq a0 l1 x5_1 x6_1 = some r) ∧ Aside0 (kq ≤ k) ∧ Aside0 (Kd.R k72 72 w' w.heap.size (fun _ => True) v5 x5_1) ∧ Aside0 (Below w.heap.size w w'))
 case atStart => exact ⟨(y215), (0), en_, H', ⟨Nat.le_refl _⟩, ⟨by (with_reducible repeat (first | apply Kd.R_alloc | apply Kd.R_drewN | apply Kd.R_drew)); exact HO217.out⟩, bw_ HB⟩
 clear H'
 try clear c1
 obtain ⟨x5_1, x6_1, rfl, HA, HK1, HO_5, HB⟩ := hrel
 cases gk with
 | zero => exact absurd HA.out (by simp [spec_l08Sorted.l0])
 | succ k1 =>
  have H := HA.out
  clear HA
  simp only [spec_l08Sorted.l0] at H
  replace H := il_ H
  rcases H with ⟨c5b0, H⟩ | ⟨c5b0, H⟩
  ·have H' := Aside0.mk H
   clear H
   obtain ⟨Ao6, co6, eo6⟩ := Kd.R_slice HO_5.out
   subst eo6
   go_wp2
   go_loopg [7] k1 (fun kq v7 w' => ∃ (x7_2 : Int), v7 = .int .i64 x7_2 ∧ Aside0 (spec_l08Sorted.l1 kq a0 l1 x5_1 x6_1 x7_2 = some r) ∧ Aside0 (kq ≤ k1) ∧ Aside0 (Kd.R k72 72 w' w.heap.size (fun _ => True) (.slice Ao6 x5_1.length co6) x5_1) ∧ Aside0 (Below w.heap.size w w'))
   case atStart => exact ⟨((x5_1.length : Int)), en_, H', ⟨Nat.le_refl _⟩, ⟨by (with_reducible repeat (first | apply Kd.R_alloc | apply Kd.R_drewN | apply Kd.R_drew)); exact HO_5.out⟩, bw_ HB⟩
   clear H'
   try clear c1
   try clear c5b0
   obtain ⟨x7_2, rfl, HA, HK2, HO_5, HB⟩ := hrel
   cases gk with
   | zero => exact absurd HA.out (by simp [spec_l08Sorted.l1])
   | succ k2 =>
    have H := HA.out
    clear HA
    simp only [spec_l08Sorted.l1] at H
    replace H := ig_ H
    rcases H with ⟨c7b0, H⟩ | ⟨c7b0, H⟩
    ·obtain ⟨ji8, hji8⟩ : ∃ j_ : Int, (wrap64 (x7_2 - 1)) = j_ := ⟨_, rfl⟩
     replace H : (if 0 ≤ (ji8) then (if (ji8) < (x5_1.length : Int) then ((spec_l08Key.f k2 a0 ((rd_T72 x5_1 (ji8)).f0.f0) ((rd_T72 x5_1 (ji8)).f0.f1) ((rd_T72 x5_1 (ji8)).f0.f2)).bind fun t219 => (if 0 ≤ x6_1 then (if x6_1 < (l1.length : Int) then ((spec_l08Key.f k2 a0 ((rd_T72 l1 x6_1).f0.f0) ((rd_T72 l1 x6_1).f0.f1) ((rd_T72 l1 x6_1).f0.f2)).bind fun t221 => (if t219 > t221 then (spec_l08Sorted.l1 k2 a0 l1 x5_1 x6_1 ji8) else ((some (([(⟨(⟨(rd_T72 l1 x6_1).f0.f0, (rd_T72 l1 x6_1).f0.f1, (rd_T72 l1 x6_1).f0.f2⟩ : S31), (rd_T72 l1 x6_1).f1⟩ : S72)] : List (S72)) : List (S72))).bind fun y223 => (if 0 ≤ x7_2 then (if x7_2 ≤ (x5_1.length : Int) then ((some (x5_1.drop (x7_2 : Int).toNat : List (S72))).bind fun y226 => (if y223.length + y226.length < 4398046511104 then ((some (y223 ++ y226 : List (S72))).bind fun y230 => ((some (([] : List (S72)) : List (S72))).bind fun y233 => ((some (x5_1.take (x7_2 : Int).toNat : List (S72))).bind fun y236 => (if y233.length + y236.length < 4398046511104 then ((some (y233 ++ y236 : List (S72))).bind fun y240 => (if y240.length + y230.length < 4398046511104 then (spec_l08Sorted.l0 k2 a0 l1 (y240 ++ y230) (wrap64 (x6_1 + 1))) else (none))) else (none))))) else (none))) else (none)) else (none))))) else (none)) else (none))) else (none)) else (none)) = some r := by first | (rw [hji8] at H; exact H) | (simp only [hji8] at H ⊢; exact H)
     have hji8w : (IntKind.i64.wrap (x7_2 - 1)) = ji8 := (i64_w _).trans hji8
     replace H := imn_ H
     obtain ⟨c9b0, H⟩ := H
     replace H := iln_ H
     obtain ⟨c10b0, H⟩ := H
     replace H := oc_ H
     obtain ⟨t219, A11, H⟩ := H
     replace H := imn_ H
     obtain ⟨c12b0, H⟩ := H
     replace H := iln_ H
     obtain ⟨c13b0, H⟩ := H
     replace H := oc_ H
     obtain ⟨t221, A14, H⟩ := H
     replace H := ig_ H
     rcases H with ⟨c15b0, H⟩ | ⟨c15b0, H⟩
     ·have H' := Aside0.mk H
      clear H
      try go_wp2
      replace HO_5 := Aside0.mk (Kd.R_drew HO_5.out)
      replace HB := be_ HB
      have p218 : 0 ≤ ((ji8) : Int) := od_
      have q218 : (ji8) < (x5_1.length : Int) := od_
      obtain ⟨ad218, e218, hx218_0, hx218_1, hx218_2, hx218_3⟩ := at_T72 (Kd.R_reads' HO_5.out).2.2 (ji8) p218 q218
      cases e218
      replace p218 := eq_true p218
      replace q218 := eq_true q218
      have p220 : 0 ≤ (x6_1 : Int) := od_
      have q220 : x6_1 < (l1.length : Int) := od_
      obtain ⟨ad220, e220, hx220_0, hx220_1, hx220_2, hx220_3⟩ := at_T72 HR1.out x6_1 p220 q220
      have hw220_3 := hx220_3
      have hw220_2 := hx220_2
      have hw220_1 := hx220_1
      have hw220_0 := hx220_0
      cases e220
      replace hx220_0 := clTr HB.out hx220_0
      replace hx220_1 := clTr HB.out hx220_1
      replace hx220_2 := clTr HB.out hx220_2
      replace hx220_3 := clTr HB.out hx220_3
      replace p220 := eq_true p220
      replace q220 := eq_true q220
      refine start_ (n := 20) (S := fun w' => w'.cell? (ad218.add (((ji8)).toNat * 4)) = some (.int .i64 ((rd_T72 x5_1 (ji8)).f0.f0)) ∧ w'.cell? ⟨(ad218.add (((ji8)).toNat * 4)).block, (ad218.add (((ji8)).toNat * 4)).off + 1, none⟩ = some (.int .i64 ((rd_T72 x5_1 (ji8)).f0.f1)) ∧ w'.cell? ⟨(ad218.add (((ji8)).toNat * 4)).block, (ad218.add (((ji8)).toNat * 4)).off + 2, none⟩ = some (.int .i64 ((rd_T72 x5_1 (ji8)).f0.f2)) ∧ w'.cell? ⟨(ad218.add (((ji8)).toNat * 4)).block, (ad218.add (((ji8)).toNat * 4)).off + 3, none⟩ = some (.int .i64 ((rd_T72 x5_1 (ji8)).f1)) ∧ w'.cell? (ad220.add ((x6_1).toNat * 4)) = some (.int .i64 ((rd_T72 l1 x6_1).f0.f0)) ∧ w'.cell? ⟨(ad220.add ((x6_1).toNat * 4)).block, (ad220.add ((x6_1).toNat * 4)).off + 1, none⟩ = some (.int .i64 ((rd_T72 l1 x6_1).f0.f1)) ∧ w'.cell? ⟨(ad220.add ((x6_1).toNat * 4)).block, (ad220.add ((x6_1).toNat * 4)).off + 2, none⟩ = some (.int .i64 ((rd_T72 l1 x6_1).f0.f2)) ∧ w'.cell? ⟨(ad220.add ((x6_1).toNat * 4)).block, (ad220.add ((x6_1).toNat * 4)).off + 3, none⟩ = some (.int .i64 ((rd_T72 l1 x6_1).f1))) (ds := []) (bv_ 20 0) (by kernel_rfl) rfl rfl ⟨hx218_0, hx218_1, hx218_2, hx218_3, (clTr HB.out hw220_0 :), (clTr HB.out hw220_1 :), (clTr HB.out hw220_2 :), (clTr HB.out hw220_3 :)⟩ (fun hHeld => ?_); refine with_tabW spec_l08Sorted.tab6 spec_l08Sorted.bits6 (fun HT_ HW_ => ?_)
      generalize wr.drew = w16 at HO_5 HB hx218_0 hx218_1 hx218_2 hx218_3 hx220_0 hx220_1 hx220_2 hx220_3 hHeld ⊢
      refine px_ HT_ 0 18 1 ?_
      refine px_ HT_ 1 19 3 ?_
      refine px_ HT_ 2 20 7 ?_
      refine px_ HT_ 3 21 15 ?_
      refine px_ HT_ 4 22 31 ?_
      refine px_ HT_ 5 23 63 ?_
      refine px_ HT_ 6 24 127 ?_
      refine px_ HT_ 7 25 255 ?_
      refine px_ HT_ 8 26 511 ?_
      refine px_ HT_ 11 29 2559 ?_
      refine px_ HT_ 12 30 6655 ?_
      refine px_ HT_ 13 31 14847 ?_
      refine px_ HT_ 14 32 31231 ?_
      refine px_ HT_ 15 33 63999 ?_
      refine ta_ HT_ HW_ 9 (some 27) (bv_ 20 64511) hHeld ?_ (hy := by rintro w' ⟨s0, s1, s2, s3, s4, s5, s6, s7⟩; go_simp; with_reducible rfl)
      refine ta_ HT_ HW_ 16 (some 34) (bv_ 20 130047) hHeld ?_ (hy := by rintro w' ⟨s0, s1, s2, s3, s4, s5, s6, s7⟩; go_simp; with_reducible rfl)
      refine on_ HT_ 10 (some 28) (bv_ 20 131071) (fun K hK => ?_)
      refine gs_ Try.func67 #[.int .i64 a0, .agg #[.int .i64 ((rd_T72 x5_1 (ji8)).f0.f0), .int .i64 ((rd_T72 x5_1 (ji8)).f0.f1), .int .i64 ((rd_T72 x5_1 (ji8)).f0.f2)]] ?_ (hargs := by (try simp only [List.map_toArray, List.map_cons, List.map_nil]); first | done | (simp only [hji8]; rfl) | rfl | (simp only [List.length_drop, List.length_take]; rfl))
      with_reducible refine (spec_l08Key.calls k2 a0 ((rd_T72 x5_1 (ji8)).f0.f0) ((rd_T72 x5_1 (ji8)).f0.f1) ((rd_T72 x5_1 (ji8)).f0.f2) t219 _ A11.out).mono ?_
      rintro e w17 ⟨rfl, hb⟩
      have HS0_ := (hb.cell (World.block_lt_of_cell? _ _ (hHeld.1))).trans (hHeld.1)
      have HS1_ := (hb.cell (World.block_lt_of_cell? _ _ (hHeld.2.1))).trans (hHeld.2.1)
      have HS2_ := (hb.cell (World.block_lt_of_cell? _ _ (hHeld.2.2.1))).trans (hHeld.2.2.1)
      have HS3_ := (hb.cell (World.block_lt_of_cell? _ _ (hHeld.2.2.2.1))).trans (hHeld.2.2.2.1)
      refine ⟨_, rfl, ?_⟩
      replace HO_5 := rb_ HO_5 hb
      replace HB := bt_ HB hb
      try clear hb
      refine hK.out _ _ ⟨HS0_, HS1_, HS2_, HS3_, (clTr HB.out hw220_0 :), (clTr HB.out hw220_1 :), (clTr HB.out hw220_2 :), (clTr HB.out hw220_3 :)⟩ (fun hHeld => ?_)
      clear hK K
      refine nm_ (some 28) ?_
      refine on_ HT_ 17 (some 35) (bv_ 20 262143) (fun K hK => ?_)
      refine gs_ Try.func67 #[.int .i64 a0, .agg #[.int .i64 ((rd_T72 l1 x6_1).f0.f0), .int .i64 ((rd_T72 l1 x6_1).f0.f1), .int .i64 ((rd_T72 l1 x6_1).f0.f2)]] ?_
      with_reducible refine (spec_l08Key.calls k2 a0 ((rd_T72 l1 x6_1).f0.f0) ((rd_T72 l1 x6_1).f0.f1) ((rd_T72 l1 x6_1).f0.f2) t221 _ A14.out).mono ?_
      rintro e w18 ⟨rfl, hb⟩
      have HS0_ := (hb.cell (World.block_lt_of_cell? _ _ (hHeld.1))).trans (hHeld.1)
      have HS1_ := (hb.cell (World.block_lt_of_cell? _ _ (hHeld.2.1))).trans (hHeld.2.1)
      have HS2_ := (hb.cell (World.block_lt_of_cell? _ _ (hHeld.2.2.1))).trans (hHeld.2.2.1)
      have HS3_ := (hb.cell (World.block_lt_of_cell? _ _ (hHeld.2.2.2.1))).trans (hHeld.2.2.2.1)
      refine ⟨_, rfl, ?_⟩
      replace HO_5 := rb_ HO_5 hb
      replace HB := bt_ HB hb
      try clear hb
      refine hK.out _ _ ⟨HS0_, HS1_, HS2_, HS3_, (clTr HB.out hw220_0 :), (clTr HB.out hw220_1 :), (clTr HB.out hw220_2 :), (clTr HB.out hw220_3 :)⟩ (fun hHeld => ?_)
      clear hK K
      refine nm_ (some 35) ?_
      refine px_ HT_ 18 36 524287 ?_
      refine px_ HT_ 19 37 1048575 ?_
      refine done_ (done_of HT_.out (by kernel_rfl)) ?_
      try go_wp2
      go_roundg k2
      case measure => have := HK1.out; have := HK2.out; omega
      case rel => exact ⟨(ji8), (by first | rfl | (simp; done) | (simp only [← hji8] <;> (first | rfl | simp)) | (simp [*]; done)), H', ⟨by have := HK1.out; have := HK2.out; omega⟩, ⟨by (with_reducible repeat (first | apply Kd.R_alloc | apply Kd.R_drewN | apply Kd.R_drew)); exact HO_5.out⟩, bw_ HB⟩
     obtain ⟨y223, hy223⟩ : ∃ y_ : List (S72), y_ = (([(⟨(⟨(rd_T72 l1 x6_1).f0.f0, (rd_T72 l1 x6_1).f0.f1, (rd_T72 l1 x6_1).f0.f2⟩ : S31), (rd_T72 l1 x6_1).f1⟩ : S72)] : List (S72))) := ⟨_, rfl⟩
     replace H : (if 0 ≤ x7_2 then (if x7_2 ≤ (x5_1.length : Int) then ((some (x5_1.drop (x7_2 : Int).toNat : List (S72))).bind fun y226 => (if y223.length + y226.length < 4398046511104 then ((some (y223 ++ y226 : List (S72))).bind fun y230 => ((some (([] : List (S72)) : List (S72))).bind fun y233 => ((some (x5_1.take (x7_2 : Int).toNat : List (S72))).bind fun y236 => (if y233.length + y236.length < 4398046511104 then ((some (y233 ++ y236 : List (S72))).bind fun y240 => (if y240.length + y230.length < 4398046511104 then (spec_l08Sorted.l0 k2 a0 l1 (y240 ++ y230) (wrap64 (x6_1 + 1))) else (none))) else (none))))) else (none))) else (none)) else (none)) = some r := by first | (rw [hy223]; with_reducible exact H) | (have H2_ := (Option.bind_some _ _).symm.trans H; rw [hy223]; with_reducible exact H2_) | (have H2_ := (Option.bind_some _ _).symm.trans H; with_reducible exact H2_) | with_reducible exact H | (rw [hy223]; exact H) | exact H
     have Ny223 := Aside0.mk hy223
     clear hy223
     by_cases c19 : 0 ≤ x7_2
     ·rw [if_pos c19] at H
      have c19b0 := eq_true c19
      have c19b1 : decide (0 ≤ x7_2) = true := decide_eq_true c19
      clear c19
      by_cases c20 : x7_2 ≤ (x5_1.length : Int)
      ·rw [if_pos c20] at H
       have c20b0 := eq_true c20
       have c20b1 : decide (x7_2 ≤ (x5_1.length : Int)) = true := decide_eq_true c20
       clear c20
       obtain ⟨y226, hy226⟩ : ∃ y_ : List (S72), y_ = (x5_1.drop (x7_2 : Int).toNat) := ⟨_, rfl⟩
       replace H : (if y223.length + y226.length < 4398046511104 then ((some (y223 ++ y226 : List (S72))).bind fun y230 => ((some (([] : List (S72)) : List (S72))).bind fun y233 => ((some (x5_1.take (x7_2 : Int).toNat : List (S72))).bind fun y236 => (if y233.length + y236.length < 4398046511104 then ((some (y233 ++ y236 : List (S72))).bind fun y240 => (if y240.length + y230.length < 4398046511104 then (spec_l08Sorted.l0 k2 a0 l1 (y240 ++ y230) (wrap64 (x6_1 + 1))) else (none))) else (none))))) else (none)) = some r := by first | (rw [hy226]; with_reducible exact H) | (have H2_ := (Option.bind_some _ _).symm.trans H; rw [hy226]; with_reducible exact H2_) | (have H2_ := (Option.bind_some _ _).symm.trans H; with_reducible exact H2_) | with_reducible exact H | (rw [hy226]; exact H) | exact H
       have Ny226 := Aside0.mk hy226
       clear hy226
       by_cases c21 : y223.length + y226.length < 4398046511104
       ·rw [if_pos c21] at H
        have LMc21 := Aside0.mk c21
        clear c21
        obtain ⟨y230, hy230⟩ : ∃ y_ : List (S72), y_ = (y223 ++ y226) := ⟨_, rfl⟩
        replace H : ((some (([] : List (S72)) : List (S72))).bind fun y233 => ((some (x5_1.take (x7_2 : Int).toNat : List (S72))).bind fun y236 => (if y233.length + y236.length < 4398046511104 then ((some (y233 ++ y236 : List (S72))).bind fun y240 => (if y240.length + y230.length < 4398046511104 then (spec_l08Sorted.l0 k2 a0 l1 (y240 ++ y230) (wrap64 (x6_1 + 1))) else (none))) else (none)))) = some r := by first | (rw [hy230]; with_reducible exact H) | (have H2_ := (Option.bind_some _ _).symm.trans H; rw [hy230]; with_reducible exact H2_) | (have H2_ := (Option.bind_some _ _).symm.trans H; with_reducible exact H2_) | with_reducible exact H | (rw [hy230]; exact H) | exact H
        have Ny230 := Aside0.mk hy230
        clear hy230
        obtain ⟨y233, hy233⟩ : ∃ y_ : List (S72), y_ = (([] : List (S72))) := ⟨_, rfl⟩
        replace H : ((some (x5_1.take (x7_2 : Int).toNat : List (S72))).bind fun y236 => (if y233.length + y236.length < 4398046511104 then ((some (y233 ++ y236 : List (S72))).bind fun y240 => (if y240.length + y230.length < 4398046511104 then (spec_l08Sorted.l0 k2 a0 l1 (y240 ++ y230) (wrap64 (x6_1 + 1))) else (none))) else (none))) = some r := by first | (rw [hy233]; with_reducible exact H) | (have H2_ := (Option.bind_some _ _).symm.trans H; rw [hy233]; with_reducible exact H2_) | (have H2_ := (Option.bind_some _ _).symm.trans H; with_reducible exact H2_) | with_reducible exact H | (rw [hy233]; exact H) | exact H
        have Ny233 := Aside0.mk hy233
        clear hy233
        have c22b0 := eq_true (od_ : 0 ≤ x7_2)
        have c23b0 := eq_true (od_ : x7_2 ≤ (x5_1.length : Int))
        obtain ⟨y236, hy236⟩ : ∃ y_ : List (S72), y_ = (x5_1.take (x7_2 : Int).toNat) := ⟨_, rfl⟩
        replace H : (if y233.length + y236.length < 4398046511104 then ((some (y233 ++ y236 : List (S72))).bind fun y240 => (if y240.length + y230.length < 4398046511104 then (spec_l08Sorted.l0 k2 a0 l1 (y240 ++ y230) (wrap64 (x6_1 + 1))) else (none))) else (none)) = some r := by first | (rw [hy236]; with_reducible exact H) | (have H2_ := (Option.bind_some _ _).symm.trans H; rw [hy236]; with_reducible exact H2_) | (have H2_ := (Option.bind_some _ _).symm.trans H; with_reducible exact H2_) | with_reducible exact H | (rw [hy236]; exact H) | exact H
        have Ny236 := Aside0.mk hy236
        clear hy236
        by_cases c24 : y233.length + y236.length < 4398046511104
        ·rw [if_pos c24] at H
         have LMc24 := Aside0.mk c24
         clear c24
         obtain ⟨y240, hy240⟩ : ∃ y_ : List (S72), y_ = (y233 ++ y236) := ⟨_, rfl⟩
         replace H : (if y240.length + y230.length < 4398046511104 then (spec_l08Sorted.l0 k2 a0 l1 (y240 ++ y230) (wrap64 (x6_1 + 1))) else (none)) = some r := by first | (rw [hy240]; with_reducible exact H) | (have H2_ := (Option.bind_some _ _).symm.trans H; rw [hy240]; with_reducible exact H2_) | (have H2_ := (Option.bind_some _ _).symm.trans H; with_reducible exact H2_) | with_reducible exact H | (rw [hy240]; exact H) | exact H
         have Ny240 := Aside0.mk hy240
         clear hy240
         by_cases c25 : y240.length + y230.length < 4398046511104
         ·rw [if_pos c25] at H
          have LMc25 := Aside0.mk c25
          clear c25
          obtain ⟨y243, hy243⟩ : ∃ y_ : List (S72), y_ = (y240 ++ y230) := ⟨_, rfl⟩
          replace H : (spec_l08Sorted.l0 k2 a0 l1 y243 (wrap64 (x6_1 + 1))) = some r := by first | (rw [hy243]; with_reducible exact H) | (have H2_ := (Option.bind_some _ _).symm.trans H; rw [hy243]; with_reducible exact H2_) | (have H2_ := (Option.bind_some _ _).symm.trans H; with_reducible exact H2_) | with_reducible exact H | (rw [hy243]; exact H) | exact H
          have Ny243 := Aside0.mk hy243
          clear hy243
          have H' := Aside0.mk H
          clear H
          try go_wp2
          replace HO_5 := Aside0.mk (Kd.R_drew HO_5.out)
          replace HB := be_ HB
          have p218 : 0 ≤ ((ji8) : Int) := od_
          have q218 : (ji8) < (x5_1.length : Int) := od_
          obtain ⟨ad218, e218, hx218_0, hx218_1, hx218_2, hx218_3⟩ := at_T72 (Kd.R_reads' HO_5.out).2.2 (ji8) p218 q218
          cases e218
          replace p218 := eq_true p218
          replace q218 := eq_true q218
          have p220 : 0 ≤ (x6_1 : Int) := od_
          have q220 : x6_1 < (l1.length : Int) := od_
          obtain ⟨ad220, e220, hx220_0, hx220_1, hx220_2, hx220_3⟩ := at_T72 HR1.out x6_1 p220 q220
          have hw220_3 := hx220_3
          have hw220_2 := hx220_2
          have hw220_1 := hx220_1
          have hw220_0 := hx220_0
          cases e220
          replace hx220_0 := clTr HB.out hx220_0
          replace hx220_1 := clTr HB.out hx220_1
          replace hx220_2 := clTr HB.out hx220_2
          replace hx220_3 := clTr HB.out hx220_3
          replace p220 := eq_true p220
          replace q220 := eq_true q220
          refine start_ (n := 20) (S := fun w' => w'.cell? (ad218.add (((ji8)).toNat * 4)) = some (.int .i64 ((rd_T72 x5_1 (ji8)).f0.f0)) ∧ w'.cell? ⟨(ad218.add (((ji8)).toNat * 4)).block, (ad218.add (((ji8)).toNat * 4)).off + 1, none⟩ = some (.int .i64 ((rd_T72 x5_1 (ji8)).f0.f1)) ∧ w'.cell? ⟨(ad218.add (((ji8)).toNat * 4)).block, (ad218.add (((ji8)).toNat * 4)).off + 2, none⟩ = some (.int .i64 ((rd_T72 x5_1 (ji8)).f0.f2)) ∧ w'.cell? ⟨(ad218.add (((ji8)).toNat * 4)).block, (ad218.add (((ji8)).toNat * 4)).off + 3, none⟩ = some (.int .i64 ((rd_T72 x5_1 (ji8)).f1)) ∧ w'.cell? (ad220.add ((x6_1).toNat * 4)) = some (.int .i64 ((rd_T72 l1 x6_1).f0.f0)) ∧ w'.cell? ⟨(ad220.add ((x6_1).toNat * 4)).block, (ad220.add ((x6_1).toNat * 4)).off + 1, none⟩ = some (.int .i64 ((rd_T72 l1 x6_1).f0.f1)) ∧ w'.cell? ⟨(ad220.add ((x6_1).toNat * 4)).block, (ad220.add ((x6_1).toNat * 4)).off + 2, none⟩ = some (.int .i64 ((rd_T72 l1 x6_1).f0.f2)) ∧ w'.cell? ⟨(ad220.add ((x6_1).toNat * 4)).block, (ad220.add ((x6_1).toNat * 4)).off + 3, none⟩ = some (.int .i64 ((rd_T72 l1 x6_1).f1))) (ds := []) (bv_ 20 0) (by kernel_rfl) rfl rfl ⟨hx218_0, hx218_1, hx218_2, hx218_3, (clTr HB.out hw220_0 :), (clTr HB.out hw220_1 :), (clTr HB.out hw220_2 :), (clTr HB.out hw220_3 :)⟩ (fun hHeld => ?_); refine with_tabW spec_l08Sorted.tab6 spec_l08Sorted.bits6 (fun HT_ HW_ => ?_)
          generalize wr.drew = w26 at HO_5 HB hx218_0 hx218_1 hx218_2 hx218_3 hx220_0 hx220_1 hx220_2 hx220_3 hHeld ⊢
          refine px_ HT_ 0 18 1 ?_
          refine px_ HT_ 1 19 3 ?_
          refine px_ HT_ 2 20 7 ?_
          refine px_ HT_ 3 21 15 ?_
          refine px_ HT_ 4 22 31 ?_
          refine px_ HT_ 5 23 63 ?_
          refine px_ HT_ 6 24 127 ?_
          refine px_ HT_ 7 25 255 ?_
          refine px_ HT_ 8 26 511 ?_
          refine px_ HT_ 11 29 2559 ?_
          refine px_ HT_ 12 30 6655 ?_
          refine px_ HT_ 13 31 14847 ?_
          refine px_ HT_ 14 32 31231 ?_
          refine px_ HT_ 15 33 63999 ?_
          refine ta_ HT_ HW_ 9 (some 27) (bv_ 20 64511) hHeld ?_ (hy := by rintro w' ⟨s0, s1, s2, s3, s4, s5, s6, s7⟩; go_simp; with_reducible rfl)
          refine ta_ HT_ HW_ 16 (some 34) (bv_ 20 130047) hHeld ?_ (hy := by rintro w' ⟨s0, s1, s2, s3, s4, s5, s6, s7⟩; go_simp; with_reducible rfl)
          refine on_ HT_ 10 (some 28) (bv_ 20 131071) (fun K hK => ?_)
          refine gs_ Try.func67 #[.int .i64 a0, .agg #[.int .i64 ((rd_T72 x5_1 (ji8)).f0.f0), .int .i64 ((rd_T72 x5_1 (ji8)).f0.f1), .int .i64 ((rd_T72 x5_1 (ji8)).f0.f2)]] ?_ (hargs := by (try simp only [List.map_toArray, List.map_cons, List.map_nil]); first | done | (simp only [hji8]; rfl) | rfl | (simp only [List.length_drop, List.length_take]; rfl))
          with_reducible refine (spec_l08Key.calls k2 a0 ((rd_T72 x5_1 (ji8)).f0.f0) ((rd_T72 x5_1 (ji8)).f0.f1) ((rd_T72 x5_1 (ji8)).f0.f2) t219 _ A11.out).mono ?_
          rintro e w27 ⟨rfl, hb⟩
          have HS0_ := (hb.cell (World.block_lt_of_cell? _ _ (hHeld.1))).trans (hHeld.1)
          have HS1_ := (hb.cell (World.block_lt_of_cell? _ _ (hHeld.2.1))).trans (hHeld.2.1)
          have HS2_ := (hb.cell (World.block_lt_of_cell? _ _ (hHeld.2.2.1))).trans (hHeld.2.2.1)
          have HS3_ := (hb.cell (World.block_lt_of_cell? _ _ (hHeld.2.2.2.1))).trans (hHeld.2.2.2.1)
          refine ⟨_, rfl, ?_⟩
          replace HO_5 := rb_ HO_5 hb
          replace HB := bt_ HB hb
          try clear hb
          refine hK.out _ _ ⟨HS0_, HS1_, HS2_, HS3_, (clTr HB.out hw220_0 :), (clTr HB.out hw220_1 :), (clTr HB.out hw220_2 :), (clTr HB.out hw220_3 :)⟩ (fun hHeld => ?_)
          clear hK K
          refine nm_ (some 28) ?_
          refine on_ HT_ 17 (some 35) (bv_ 20 262143) (fun K hK => ?_)
          refine gs_ Try.func67 #[.int .i64 a0, .agg #[.int .i64 ((rd_T72 l1 x6_1).f0.f0), .int .i64 ((rd_T72 l1 x6_1).f0.f1), .int .i64 ((rd_T72 l1 x6_1).f0.f2)]] ?_
          with_reducible refine (spec_l08Key.calls k2 a0 ((rd_T72 l1 x6_1).f0.f0) ((rd_T72 l1 x6_1).f0.f1) ((rd_T72 l1 x6_1).f0.f2) t221 _ A14.out).mono ?_
          rintro e w28 ⟨rfl, hb⟩
          have HS0_ := (hb.cell (World.block_lt_of_cell? _ _ (hHeld.1))).trans (hHeld.1)
          have HS1_ := (hb.cell (World.block_lt_of_cell? _ _ (hHeld.2.1))).trans (hHeld.2.1)
          have HS2_ := (hb.cell (World.block_lt_of_cell? _ _ (hHeld.2.2.1))).trans (hHeld.2.2.1)
          have HS3_ := (hb.cell (World.block_lt_of_cell? _ _ (hHeld.2.2.2.1))).trans (hHeld.2.2.2.1)
          refine ⟨_, rfl, ?_⟩
          replace HO_5 := rb_ HO_5 hb
          replace HB := bt_ HB hb
          try clear hb
          refine hK.out _ _ ⟨HS0_, HS1_, HS2_, HS3_, (clTr HB.out hw220_0 :), (clTr HB.out hw220_1 :), (clTr HB.out hw220_2 :), (clTr HB.out hw220_3 :)⟩ (fun hHeld => ?_)
          clear hK K
          refine nm_ (some 35) ?_
          refine px_ HT_ 18 36 524287 ?_
          refine px_ HT_ 19 37 1048575 ?_
          refine done_ (done_of HT_.out (by kernel_rfl)) ?_
          try go_wp2
          replace HO_5 := Aside0.mk (Kd.R_drew HO_5.out)
          replace HB := be_ HB
          have p222 : 0 ≤ (x6_1 : Int) := od_
          have q222 : x6_1 < (l1.length : Int) := od_
          obtain ⟨ad222, e222, hx222_0, hx222_1, hx222_2, hx222_3⟩ := at_T72 HR1.out x6_1 p222 q222
          have hw222_3 := hx222_3
          have hw222_2 := hx222_2
          have hw222_1 := hx222_1
          have hw222_0 := hx222_0
          obtain rfl : ad220 = ad222 := (by injection e222)
          replace hx222_0 := clTr HB.out hx222_0
          replace hx222_1 := clTr HB.out hx222_1
          replace hx222_2 := clTr HB.out hx222_2
          replace hx222_3 := clTr HB.out hx222_3
          replace p222 := eq_true p222
          replace q222 := eq_true q222
          have q30 : (x7_2 : Int) ≤ ((x5_1.length : Int) : Int) := od_
          obtain ⟨i030, hi030, _, hsz30, _⟩ := info_parts info72
          have hroom30 : x5_1.length ≤ co6 := (Kd.R_reads' HO_5.out).2.1
          have hC30 : Kd.C k72 _ (some ad218) x5_1.length x5_1 := (Kd.R_reads' HO_5.out).2.2
          have q030 : (0 : Int) ≤ (x7_2 : Int) := od_
          have hcut30 := cut_from (P := Try.prog) 32 72 .i64 Try.underlying32 hi030 4 hsz30 (some ad218) x5_1.length co6 x7_2 q030 q30
          have hr30 := Kd.C_drop (m := (x7_2 : Int).toNat) (c := co6) hC30 (by omega) hroom30
          obtain ⟨A30, hA30⟩ : ∃ A1, A1 = (if co6 = (x7_2 : Int).toNat then (some ad218) else ((some ad218) : Option Addr).map (·.add ((x7_2 : Int).toNat * 4))) := ⟨_, rfl⟩
          obtain ⟨c30, hc30⟩ : ∃ c1, c1 = co6 - (x7_2 : Int).toNat := ⟨_, rfl⟩
          have hy30 : y226.length = x5_1.length - (x7_2 : Int).toNat := (by rw [Ny226.out, List.length_drop] <;> omega)
          rw [show (x5_1).drop (x7_2 : Int).toNat = y226 from Ny226.out.symm] at hr30
          replace hr30 : Kd.C k72 _ A30 y226.length y226 := (by rw [hA30]; exact hr30)
          rw [← hy30, ← hA30, ← hc30] at hcut30
          have HR229 := Aside0.mk hr30
          have HC229 := Aside0.mk (show y226.length ≤ c30 from by rw [hy30, hc30]; exact Nat.sub_le_sub_right hroom30 _)
          clear hr30 hC30 hroom30 hi030 hsz30 hc30
          have KY30 := Aside0.mk hy30
          have KA30 := Aside0.mk hA30
          clear hy30 hA30
          have KL30 := Aside0.mk (show (x7_2 : Int).toNat ≤ x5_1.length from by omega)
          replace q30 := eq_true q30
          refine start_ (n := 10) (S := fun w' => w'.cell? (ad220.add ((x6_1).toNat * 4)) = some (.int .i64 ((rd_T72 l1 x6_1).f0.f0)) ∧ w'.cell? ⟨(ad220.add ((x6_1).toNat * 4)).block, (ad220.add ((x6_1).toNat * 4)).off + 1, none⟩ = some (.int .i64 ((rd_T72 l1 x6_1).f0.f1)) ∧ w'.cell? ⟨(ad220.add ((x6_1).toNat * 4)).block, (ad220.add ((x6_1).toNat * 4)).off + 2, none⟩ = some (.int .i64 ((rd_T72 l1 x6_1).f0.f2)) ∧ w'.cell? ⟨(ad220.add ((x6_1).toNat * 4)).block, (ad220.add ((x6_1).toNat * 4)).off + 3, none⟩ = some (.int .i64 ((rd_T72 l1 x6_1).f1))) (ds := []) (bv_ 10 0) (by kernel_rfl) rfl rfl ⟨(clTr HB.out hw222_0 :), (clTr HB.out hw222_1 :), (clTr HB.out hw222_2 :), (clTr HB.out hw222_3 :)⟩ (fun hHeld => ?_); refine with_tabW spec_l08Sorted.tab8 spec_l08Sorted.bits8 (fun HT_ HW_ => ?_)
          generalize w28.drew = w29 at HO_5 HB HR229 hx222_0 hx222_1 hx222_2 hx222_3 hHeld ⊢
          refine px_ HT_ 0 40 1 ?_
          refine px_ HT_ 1 41 3 ?_
          refine px_ HT_ 2 42 7 ?_
          refine px_ HT_ 5 45 39 ?_
          refine px_ HT_ 6 46 103 ?_
          refine px_ HT_ 7 47 231 ?_
          refine ta_ HT_ HW_ 3 (some 43) (bv_ 10 239) hHeld ?_ (hy := by rintro w' ⟨s0, s1, s2, s3⟩; go_simp; with_reducible rfl)
          refine on_ HT_ 4 (some 44) (bv_ 10 255) (fun K hK => ?_)
          refine Kd.R_lit_step k72 _ 72 ?hg (N := 44) ?hd (xs := ([(⟨(⟨(rd_T72 l1 x6_1).f0.f0, (rd_T72 l1 x6_1).f0.f1, (rd_T72 l1 x6_1).f0.f2⟩ : S31), (rd_T72 l1 x6_1).f1⟩ : S72)] : List (S72))) (inner := [.int .i64 ((rd_T72 l1 x6_1).f0.f0), .int .i64 ((rd_T72 l1 x6_1).f0.f1), .int .i64 ((rd_T72 l1 x6_1).f0.f2), .int .i64 ((rd_T72 l1 x6_1).f1)]) (ok := fun _ => True) (okp := fun _ => True) ?hr ?hp (fun _ hk => hk) trivial (Below.refl _ _) (Nat.le_refl _) (by simp) ?_; (case hd => rfl); (case hg => rfl); (case hr => first | (go_simp; done) | (go_simp; rfl)); (case hp => exact (Reps.c4 (show Kd.M k72 _ _ _ (⟨(⟨(rd_T72 l1 x6_1).f0.f0, (rd_T72 l1 x6_1).f0.f1, (rd_T72 l1 x6_1).f0.f2⟩ : S31), (rd_T72 l1 x6_1).f1⟩ : S72) [.int .i64 ((rd_T72 l1 x6_1).f0.f0), .int .i64 ((rd_T72 l1 x6_1).f0.f1), .int .i64 ((rd_T72 l1 x6_1).f0.f2), .int .i64 ((rd_T72 l1 x6_1).f1)] from (k72_mkM _ _ _ (⟨(⟨(rd_T72 l1 x6_1).f0.f0, (rd_T72 l1 x6_1).f0.f1, (rd_T72 l1 x6_1).f0.f2⟩ : S31), (rd_T72 l1 x6_1).f1⟩ : S72) )) (Reps.none _ _)))
          intro v224 w31 ho32 hb hg_ hnew_
          clear hg_ hnew_
          (first | rw [← Ny223.out] at ho32 | (simp only [Int.reduceToNat] at ho32; rw [← Ny223.out] at ho32))
          have HO225 := Aside0.mk (Kd.R_lower (Kd.R_new' ho32 (Kd.R_lt (ra_ HO_5.out))) (below_size (bw_ HB).out))
          replace HO_5 := Aside0.mk (Kd.R_elder' (ra_ HO_5.out) (Kd.R_base ho32) hb)
          replace HR229 := Aside0.mk (Kd.C_below (by repeat (first | (with_reducible exact HR229.out) | (with_reducible refine Kd.C_alloc ?_ _) | (with_reducible refine Kd.C_drewN ?_ _) | (with_reducible refine Kd.C_drew ?_) | exact HR229.out)) hb)
          replace HB := bt_ HB hb
          clear hb ho32
          refine hK.out _ _ ⟨(clTr HB.out hw222_0 :), (clTr HB.out hw222_1 :), (clTr HB.out hw222_2 :), (clTr HB.out hw222_3 :)⟩ (fun hHeld => ?_)
          clear hK K
          refine nm_ (some 44) ?_
          refine on_ HT_ 8 (some 48) (bv_ 10 511) (fun K hK => ?_)
          refine Kd.R_append_rows_step k72 (w0 := w) w.heap.size (by rfl) (.tmp 44) (.tmp 47) 32 72 (.agg #[(.int .i64 0), (.int .i64 0), (.int .i64 0), (.int .i64 0)]) 32 rfl Try.underlying32 info72 rfl (by decide) (by omega) v224 y223 y226 _ _ _ (fun k_ => some k_ ≠ (.slice (some ad218) x5_1.length co6 : Value).ownBlock) (fun _ => False) rfl rfl ?aO ?aR (fun _ _ h => h) (fun _ h => h.elim) ?aF ?aB ?aS ?aL ?_
          (case aR => repeat (first | exact (by repeat (first | (with_reducible exact HR229.out) | (with_reducible refine Kd.C_alloc ?_ _) | (with_reducible refine Kd.C_drewN ?_ _) | (with_reducible refine Kd.C_drew ?_) | exact HR229.out)) | (with_reducible refine Kd.C_alloc ?_ _) | (with_reducible refine Kd.C_drewN ?_ _) | (with_reducible refine Kd.C_drew ?_)))
          (case aB => exact (bw_ HB).out)
          (case aF => exact (fun k_ hk => Kd.fresh' (Kd.R_lt (ra_ HO_5.out)) k_ hk))
          (case aO => exact (by (with_reducible repeat (first | apply Kd.R_alloc | apply Kd.R_drewN | apply Kd.R_drew)); exact Kd.R_mono HO225.out (fun _ hk => hk.2)))
          (case aS => exact (below_size (bw_ HB).out))
          (case aL => have := LMc21.out; omega)
          intro v231 w33 ho hb hg hat
          rw [← Ny230.out] at ho
          have n0_ := Aside0.mk (Kd.R_after (ok := (fun _ => True)) (ra_ HO_5.out) hg hat)
          have n1_ := Aside0.mk (hb)
          have n2_ := Aside0.mk ((show Kd.C k72 w33 A30 y226.length y226 from by rw [Ny226.out, KA30.out]; exact Kd.C_drop (m := (x7_2 : Int).toNat) (c := co6) ((Kd.R_reads' (Kd.R_after (ok := (fun _ => True)) (ra_ HO_5.out) hg hat)).2.2) KL30.out ((Kd.R_reads' (Kd.R_after (ok := (fun _ => True)) (ra_ HO_5.out) hg hat)).2.1)))
          have n3_ := Aside0.mk (ho)
          clear HO_5
          clear HB
          clear HR229
          clear HO225
          have HO_5 := n0_
          have HB := n1_
          have HR229 := n2_
          have HO232 := n3_
          clear n0_ n1_ n2_ n3_
          clear ho hb hg hat
          refine hK.out _ _ ⟨(clTr HB.out hw222_0 :), (clTr HB.out hw222_1 :), (clTr HB.out hw222_2 :), (clTr HB.out hw222_3 :)⟩ (fun hHeld => ?_)
          clear hK K
          refine nm_ (some 48) ?_
          refine px_ HT_ 9 8 1023 ?_
          refine done_ (done_of HT_.out (by kernel_rfl)) ?_
          try go_wp2_with (first | ((refine gd_ 49 ?_); refine Kd.R_lit k72 _ 72 ?hg (N := 49) ?hd (xs := ([] : List (S72))) (inner := []) (ok := fun _ => True) (okp := fun _ => True) ?hr ?hp (fun _ hk => hk) trivial (Below.refl _ _) (Nat.le_refl _) (by simp) ?_; (case hd => rfl); (case hg => rfl); (case hr => first | (go_simp; done) | (go_simp; rfl)); (case hp => exact (Reps.none _ _)); intro v234 w34 ho35 hb hg_ hnew_; clear hg_ hnew_; (first | rw [← Ny233.out] at ho35 | (simp only [Int.reduceToNat] at ho35; rw [← Ny233.out] at ho35)); have HO235 := Aside0.mk (Kd.R_lower (Kd.R_new' (Kd.R_new' ho35 (Kd.R_lt (ra_ HO_5.out))) (Kd.R_lt (ra_ HO232.out))) (below_size (bw_ HB).out)); replace HO_5 := Aside0.mk (Kd.R_elder' (ra_ HO_5.out) (Kd.R_base ho35) hb); replace HO232 := Aside0.mk (Kd.R_elder' (ra_ HO232.out) (Kd.R_base ho35) hb); replace HR229 := Aside0.mk (Kd.C_below (by repeat (first | (with_reducible exact HR229.out) | (with_reducible refine Kd.C_alloc ?_ _) | (with_reducible refine Kd.C_drewN ?_ _) | (with_reducible refine Kd.C_drew ?_) | exact HR229.out)) hb); replace HB := bt_ HB hb; clear hb ho35; have q36 : (x7_2 : Int) ≤ ((x5_1.length : Int) : Int) := od_; obtain ⟨i036, hi036, _, hsz36, _⟩ := info_parts info72; have hroom36 : x5_1.length ≤ co6 := (Kd.R_reads' HO_5.out).2.1; have hC36 : Kd.C k72 _ (some ad218) x5_1.length x5_1 := (Kd.R_reads' HO_5.out).2.2; have hcut36 := cut_to (P := Try.prog) 32 72 .i64 Try.underlying32 hi036 (some ad218) x5_1.length co6 x7_2 od_ q36 hroom36; have hr36 := Kd.C_take (m := (x7_2 : Int).toNat) hC36 (by omega); have hy36 : y236.length = (x7_2 : Int).toNat := (by rw [Ny236.out, List.length_take]; omega); rw [← Ny236.out] at hr36; rw [← hy36] at hcut36; have HR239 := Aside0.mk hr36; have HC239 := Aside0.mk (show y236.length ≤ co6 from by omega); clear hr36 hC36 hroom36 hi036 hsz36; have KY36 := Aside0.mk hy36; clear hy36; have KL36 := Aside0.mk (show (x7_2 : Int).toNat ≤ x5_1.length from by omega); replace q36 := eq_true q36) | ((with_reducible refine gate_builtin (b := .append) (xs := #[.tmp 49, .tmp 52]) rfl ?_); at_builtin; refine Kd.R_append_rows k72 (w0 := w) w.heap.size rfl (.tmp 49) (.tmp 52) 32 72 (.agg #[(.int .i64 0), (.int .i64 0), (.int .i64 0), (.int .i64 0)]) 32 rfl Try.underlying32 info72 rfl (by decide) (by omega) v234 y233 y236 _ _ _ (fun k_ => some k_ ≠ (.slice (some ad218) x5_1.length co6 : Value).ownBlock ∧ some k_ ≠ (v231 : Value).ownBlock) (fun _ => False) rfl rfl ?aO ?aR (fun _ _ h => h) (fun _ h => h.elim) ?aF ?aB ?aS ?aL ?_; (case aR => repeat (first | exact (by repeat (first | (with_reducible exact HR239.out) | (with_reducible refine Kd.C_alloc ?_ _) | (with_reducible refine Kd.C_drewN ?_ _) | (with_reducible refine Kd.C_drew ?_) | exact HR239.out)) | (with_reducible refine Kd.C_alloc ?_ _) | (with_reducible refine Kd.C_drewN ?_ _) | (with_reducible refine Kd.C_drew ?_))); (case aB => exact (bw_ HB).out); (case aF => exact (fun k_ hk => ⟨Kd.fresh' (Kd.R_lt (ra_ HO_5.out)) k_ hk, Kd.fresh' (Kd.R_lt (ra_ HO232.out)) k_ hk⟩)); (case aO => exact (by (with_reducible repeat (first | apply Kd.R_alloc | apply Kd.R_drewN | apply Kd.R_drew)); exact Kd.R_mono HO235.out (fun _ hk => ⟨hk.1.2, hk.2⟩))); (case aS => exact (below_size (bw_ HB).out)); (case aL => have := LMc24.out; omega); intro v241 w37 ho hb hg hat; rw [← Ny240.out] at ho; have n0_ := Aside0.mk (Kd.R_after (ok := (fun k_ => some k_ ≠ (v231 : Value).ownBlock)) (by (with_reducible repeat (first | apply Kd.R_alloc | apply Kd.R_drewN | apply Kd.R_drew)); exact Kd.R_mono HO_5.out (fun _ hk => ⟨hk.1.2, hk.2⟩)) hg hat); have n1_ := Aside0.mk (Kd.R_after (ok := (fun k_ => some k_ ≠ (.slice (some ad218) x5_1.length co6 : Value).ownBlock)) (ra_ HO232.out) hg hat); have n2_ := Aside0.mk (hb); have n3_ := Aside0.mk ((show Kd.C k72 w37 A30 y226.length y226 from by rw [Ny226.out, KA30.out]; exact Kd.C_drop (m := (x7_2 : Int).toNat) (c := co6) ((Kd.R_reads' (Kd.R_after (ok := (fun k_ => some k_ ≠ (v231 : Value).ownBlock)) (by (with_reducible repeat (first | apply Kd.R_alloc | apply Kd.R_drewN | apply Kd.R_drew)); exact Kd.R_mono HO_5.out (fun _ hk => ⟨hk.1.2, hk.2⟩)) hg hat)).2.2) KL30.out ((Kd.R_reads' (Kd.R_after (ok := (fun k_ => some k_ ≠ (v231 : Value).ownBlock)) (by (with_reducible repeat (first | apply Kd.R_alloc | apply Kd.R_drewN | apply Kd.R_drew)); exact Kd.R_mono HO_5.out (fun _ hk => ⟨hk.1.2, hk.2⟩)) hg hat)).2.1))); have n4_ := Aside0.mk ((show Kd.C k72 w37 (some ad218) y236.length y236 from by rw [Ny236.out]; exact Kd.C_take (m := (x7_2 : Int).toNat) ((Kd.R_reads' (Kd.R_after (ok := (fun k_ => some k_ ≠ (v231 : Value).ownBlock)) (by (with_reducible repeat (first | apply Kd.R_alloc | apply Kd.R_drewN | apply Kd.R_drew)); exact Kd.R_mono HO_5.out (fun _ hk => ⟨hk.1.2, hk.2⟩)) hg hat)).2.2) KL36.out)); have n5_ := Aside0.mk (ho); clear HO_5; clear HO232; clear HB; clear HR229; clear HR239; clear HO235; have HO_5 := n0_; have HO232 := n1_; have HB := n2_; have HR229 := n3_; have HR239 := n4_; have HO242 := n5_; clear n0_ n1_ n2_ n3_ n4_ n5_; clear ho hb hg hat; obtain ⟨Ao39, co39, eo39⟩ := Kd.R_slice HO232.out; subst eo39) | ((with_reducible refine gate_builtin (b := .append) (xs := #[.tmp 53, .tmp 54]) rfl ?_); at_builtin; refine Kd.R_append_rows k72 (w0 := w) w.heap.size rfl (.tmp 53) (.tmp 54) 32 72 (.agg #[(.int .i64 0), (.int .i64 0), (.int .i64 0), (.int .i64 0)]) 32 rfl Try.underlying32 info72 rfl (by decide) (by omega) v241 y240 y230 _ _ _ (fun k_ => some k_ ≠ (.slice (some ad218) x5_1.length co6 : Value).ownBlock ∧ some k_ ≠ (.slice Ao39 y230.length co39 : Value).ownBlock) (fun _ => False) rfl rfl ?aO ?aR (fun _ _ h => h) (fun _ h => h.elim) ?aF ?aB ?aS ?aL ?_; (case aR => repeat (first | exact (Kd.R_reads' HO232.out).2.2 | (with_reducible refine Kd.C_alloc ?_ _) | (with_reducible refine Kd.C_drewN ?_ _) | (with_reducible refine Kd.C_drew ?_))); (case aB => exact (bw_ HB).out); (case aF => exact (fun k_ hk => ⟨Kd.fresh' (Kd.R_lt (ra_ HO_5.out)) k_ hk, Kd.fresh' (Kd.R_lt (ra_ HO232.out)) k_ hk⟩)); (case aO => exact (ra_ HO242.out)); (case aS => exact (below_size (bw_ HB).out)); (case aL => have := LMc25.out; omega); intro v244 w38 ho hb hg hat; rw [← Ny243.out] at ho; have n0_ := Aside0.mk (Kd.R_after (ok := (fun k_ => some k_ ≠ (.slice Ao39 y230.length co39 : Value).ownBlock)) (ra_ HO_5.out) hg hat); have n1_ := Aside0.mk (Kd.R_after (ok := (fun k_ => some k_ ≠ (.slice (some ad218) x5_1.length co6 : Value).ownBlock)) (ra_ HO232.out) hg hat); have n2_ := Aside0.mk (hb); have n3_ := Aside0.mk ((show Kd.C k72 w38 A30 y226.length y226 from by rw [Ny226.out, KA30.out]; exact Kd.C_drop (m := (x7_2 : Int).toNat) (c := co6) ((Kd.R_reads' (Kd.R_after (ok := (fun k_ => some k_ ≠ (.slice Ao39 y230.length co39 : Value).ownBlock)) (ra_ HO_5.out) hg hat)).2.2) KL30.out ((Kd.R_reads' (Kd.R_after (ok := (fun k_ => some k_ ≠ (.slice Ao39 y230.length co39 : Value).ownBlock)) (ra_ HO_5.out) hg hat)).2.1))); have n4_ := Aside0.mk ((show Kd.C k72 w38 (some ad218) y236.length y236 from by rw [Ny236.out]; exact Kd.C_take (m := (x7_2 : Int).toNat) ((Kd.R_reads' (Kd.R_after (ok := (fun k_ => some k_ ≠ (.slice Ao39 y230.length co39 : Value).ownBlock)) (ra_ HO_5.out) hg hat)).2.2) KL36.out)); have n5_ := Aside0.mk (ho); clear HO_5; clear HO232; clear HB; clear HR229; clear HR239; clear HO242; have HO_5 := n0_; have HO232 := n1_; have HB := n2_; have HR229 := n3_; have HR239 := n4_; have HO245 := n5_; clear n0_ n1_ n2_ n3_ n4_ n5_; clear ho hb hg hat))
          go_roundg k2
          case measure => have := HK1.out; have := HK2.out; omega
          case rel => exact ⟨(y243), (wrap64 (x6_1 + 1)), en_, H', ⟨by have := HK1.out; have := HK2.out; omega⟩, ⟨by (with_reducible repeat (first | apply Kd.R_alloc | apply Kd.R_drewN | apply Kd.R_drew)); exact Kd.R_mono HO245.out (fun _ hk => trivial)⟩, bw_ HB⟩
         rw [if_neg c25] at H
         exact absurd H (by simp)
        rw [if_neg c24] at H
        exact absurd H (by simp)
       rw [if_neg c21] at H
       exact absurd H (by simp)
      rw [if_neg c20] at H
      exact absurd H (by simp)
     rw [if_neg c19] at H
     exact absurd H (by simp)
    replace H := imn_ H
    obtain ⟨c40b0, H⟩ := H
    replace H := iln_ H
    obtain ⟨c41b0, H⟩ := H
    obtain ⟨y247, hy247⟩ : ∃ y_ : List (S72), y_ = (([(⟨(⟨(rd_T72 l1 x6_1).f0.f0, (rd_T72 l1 x6_1).f0.f1, (rd_T72 l1 x6_1).f0.f2⟩ : S31), (rd_T72 l1 x6_1).f1⟩ : S72)] : List (S72))) := ⟨_, rfl⟩
    replace H : (if 0 ≤ x7_2 then (if x7_2 ≤ (x5_1.length : Int) then ((some (x5_1.drop (x7_2 : Int).toNat : List (S72))).bind fun y250 => (if y247.length + y250.length < 4398046511104 then ((some (y247 ++ y250 : List (S72))).bind fun y254 => ((some (([] : List (S72)) : List (S72))).bind fun y257 => ((some (x5_1.take (x7_2 : Int).toNat : List (S72))).bind fun y260 => (if y257.length + y260.length < 4398046511104 then ((some (y257 ++ y260 : List (S72))).bind fun y264 => (if y264.length + y254.length < 4398046511104 then (spec_l08Sorted.l0 k2 a0 l1 (y264 ++ y254) (wrap64 (x6_1 + 1))) else (none))) else (none))))) else (none))) else (none)) else (none)) = some r := by first | (rw [hy247]; with_reducible exact H) | (have H2_ := (Option.bind_some _ _).symm.trans H; rw [hy247]; with_reducible exact H2_) | (have H2_ := (Option.bind_some _ _).symm.trans H; with_reducible exact H2_) | with_reducible exact H | (rw [hy247]; exact H) | exact H
    have Ny247 := Aside0.mk hy247
    clear hy247
    by_cases c42 : 0 ≤ x7_2
    ·rw [if_pos c42] at H
     have c42b0 := eq_true c42
     have c42b1 : decide (0 ≤ x7_2) = true := decide_eq_true c42
     clear c42
     by_cases c43 : x7_2 ≤ (x5_1.length : Int)
     ·rw [if_pos c43] at H
      have c43b0 := eq_true c43
      have c43b1 : decide (x7_2 ≤ (x5_1.length : Int)) = true := decide_eq_true c43
      clear c43
      obtain ⟨y250, hy250⟩ : ∃ y_ : List (S72), y_ = (x5_1.drop (x7_2 : Int).toNat) := ⟨_, rfl⟩
      replace H : (if y247.length + y250.length < 4398046511104 then ((some (y247 ++ y250 : List (S72))).bind fun y254 => ((some (([] : List (S72)) : List (S72))).bind fun y257 => ((some (x5_1.take (x7_2 : Int).toNat : List (S72))).bind fun y260 => (if y257.length + y260.length < 4398046511104 then ((some (y257 ++ y260 : List (S72))).bind fun y264 => (if y264.length + y254.length < 4398046511104 then (spec_l08Sorted.l0 k2 a0 l1 (y264 ++ y254) (wrap64 (x6_1 + 1))) else (none))) else (none))))) else (none)) = some r := by first | (rw [hy250]; with_reducible exact H) | (have H2_ := (Option.bind_some _ _).symm.trans H; rw [hy250]; with_reducible exact H2_) | (have H2_ := (Option.bind_some _ _).symm.trans H; with_reducible exact H2_) | with_reducible exact H | (rw [hy250]; exact H) | exact H
      have Ny250 := Aside0.mk hy250
      clear hy250
      by_cases c44 : y247.length + y250.length < 4398046511104
      ·rw [if_pos c44] at H
       have LMc44 := Aside0.mk c44
       clear c44
       obtain ⟨y254, hy254⟩ : ∃ y_ : List (S72), y_ = (y247 ++ y250) := ⟨_, rfl⟩
       replace H : ((some (([] : List (S72)) : List (S72))).bind fun y257 => ((some (x5_1.take (x7_2 : Int).toNat : List (S72))).bind fun y260 => (if y257.length + y260.length < 4398046511104 then ((some (y257 ++ y260 : List (S72))).bind fun y264 => (if y264.length + y254.length < 4398046511104 then (spec_l08Sorted.l0 k2 a0 l1 (y264 ++ y254) (wrap64 (x6_1 + 1))) else (none))) else (none)))) = some r := by first | (rw [hy254]; with_reducible exact H) | (have H2_ := (Option.bind_some _ _).symm.trans H; rw [hy254]; with_reducible exact H2_) | (have H2_ := (Option.bind_some _ _).symm.trans H; with_reducible exact H2_) | with_reducible exact H | (rw [hy254]; exact H) | exact H
       have Ny254 := Aside0.mk hy254
       clear hy254
       obtain ⟨y257, hy257⟩ : ∃ y_ : List (S72), y_ = (([] : List (S72))) := ⟨_, rfl⟩
       replace H : ((some (x5_1.take (x7_2 : Int).toNat : List (S72))).bind fun y260 => (if y257.length + y260.length < 4398046511104 then ((some (y257 ++ y260 : List (S72))).bind fun y264 => (if y264.length + y254.length < 4398046511104 then (spec_l08Sorted.l0 k2 a0 l1 (y264 ++ y254) (wrap64 (x6_1 + 1))) else (none))) else (none))) = some r := by first | (rw [hy257]; with_reducible exact H) | (have H2_ := (Option.bind_some _ _).symm.trans H; rw [hy257]; with_reducible exact H2_) | (have H2_ := (Option.bind_some _ _).symm.trans H; with_reducible exact H2_) | with_reducible exact H | (rw [hy257]; exact H) | exact H
       have Ny257 := Aside0.mk hy257
       clear hy257
       have c45b0 := eq_true (od_ : 0 ≤ x7_2)
       have c46b0 := eq_true (od_ : x7_2 ≤ (x5_1.length : Int))
       obtain ⟨y260, hy260⟩ : ∃ y_ : List (S72), y_ = (x5_1.take (x7_2 : Int).toNat) := ⟨_, rfl⟩
       replace H : (if y257.length + y260.length < 4398046511104 then ((some (y257 ++ y260 : List (S72))).bind fun y264 => (if y264.length + y254.length < 4398046511104 then (spec_l08Sorted.l0 k2 a0 l1 (y264 ++ y254) (wrap64 (x6_1 + 1))) else (none))) else (none)) = some r := by first | (rw [hy260]; with_reducible exact H) | (have H2_ := (Option.bind_some _ _).symm.trans H; rw [hy260]; with_reducible exact H2_) | (have H2_ := (Option.bind_some _ _).symm.trans H; with_reducible exact H2_) | with_reducible exact H | (rw [hy260]; exact H) | exact H
       have Ny260 := Aside0.mk hy260
       clear hy260
       by_cases c47 : y257.length + y260.length < 4398046511104
       ·rw [if_pos c47] at H
        have LMc47 := Aside0.mk c47
        clear c47
        obtain ⟨y264, hy264⟩ : ∃ y_ : List (S72), y_ = (y257 ++ y260) := ⟨_, rfl⟩
        replace H : (if y264.length + y254.length < 4398046511104 then (spec_l08Sorted.l0 k2 a0 l1 (y264 ++ y254) (wrap64 (x6_1 + 1))) else (none)) = some r := by first | (rw [hy264]; with_reducible exact H) | (have H2_ := (Option.bind_some _ _).symm.trans H; rw [hy264]; with_reducible exact H2_) | (have H2_ := (Option.bind_some _ _).symm.trans H; with_reducible exact H2_) | with_reducible exact H | (rw [hy264]; exact H) | exact H
        have Ny264 := Aside0.mk hy264
        clear hy264
        by_cases c48 : y264.length + y254.length < 4398046511104
        ·rw [if_pos c48] at H
         have LMc48 := Aside0.mk c48
         clear c48
         obtain ⟨y267, hy267⟩ : ∃ y_ : List (S72), y_ = (y264 ++ y254) := ⟨_, rfl⟩
         replace H : (spec_l08Sorted.l0 k2 a0 l1 y267 (wrap64 (x6_1 + 1))) = some r := by first | (rw [hy267]; with_reducible exact H) | (have H2_ := (Option.bind_some _ _).symm.trans H; rw [hy267]; with_reducible exact H2_) | (have H2_ := (Option.bind_some _ _).symm.trans H; with_reducible exact H2_) | with_reducible exact H | (rw [hy267]; exact H) | exact H
         have Ny267 := Aside0.mk hy267
         clear hy267
         have H' := Aside0.mk H
         clear H
         try go_wp2
         replace HO_5 := Aside0.mk (Kd.R_drew HO_5.out)
         replace HB := be_ HB
         refine start_ (n := 20) (S := fun w' => True) (ds := []) (bv_ 20 0) (by kernel_rfl) rfl rfl trivial (fun hHeld => ?_); refine with_tabW spec_l08Sorted.tab6 spec_l08Sorted.bits6 (fun HT_ HW_ => ?_)
         generalize wr.drew = w49 at HO_5 HB hHeld ⊢
         refine px_ HT_ 0 18 1 ?_
         refine px_ HT_ 1 19 3 ?_
         refine px_ HT_ 2 20 7 ?_
         refine pv_ HT_ 3 (some 21) (bv_ 20 15) ?_
         refine pv_ HT_ 4 (some 22) (bv_ 20 31) ?_
         refine pv_ HT_ 5 (some 23) (bv_ 20 63) ?_
         refine pv_ HT_ 6 (some 24) (bv_ 20 127) ?_
         refine pv_ HT_ 7 (some 25) (bv_ 20 255) ?_
         refine pv_ HT_ 8 (some 26) (bv_ 20 511) ?_
         refine pv_ HT_ 9 (some 27) (bv_ 20 1023) ?_
         refine pv_ HT_ 10 (some 28) (bv_ 20 2047) ?_
         refine pv_ HT_ 11 (some 29) (bv_ 20 4095) ?_
         refine pv_ HT_ 12 (some 30) (bv_ 20 8191) ?_
         refine pv_ HT_ 13 (some 31) (bv_ 20 16383) ?_
         refine pv_ HT_ 14 (some 32) (bv_ 20 32767) ?_
         refine pv_ HT_ 15 (some 33) (bv_ 20 65535) ?_
         refine pv_ HT_ 16 (some 34) (bv_ 20 131071) ?_
         refine pv_ HT_ 17 (some 35) (bv_ 20 262143) ?_
         refine pv_ HT_ 18 (some 36) (bv_ 20 524287) ?_
         refine px_ HT_ 19 37 1048575 ?_
         refine done_ (done_of HT_.out (by kernel_rfl)) ?_
         try go_wp2
         replace HO_5 := Aside0.mk (Kd.R_drew HO_5.out)
         replace HB := be_ HB
         have p246 : 0 ≤ (x6_1 : Int) := od_
         have q246 : x6_1 < (l1.length : Int) := od_
         obtain ⟨ad246, e246, hx246_0, hx246_1, hx246_2, hx246_3⟩ := at_T72 HR1.out x6_1 p246 q246
         have hw246_3 := hx246_3
         have hw246_2 := hx246_2
         have hw246_1 := hx246_1
         have hw246_0 := hx246_0
         cases e246
         replace hx246_0 := clTr HB.out hx246_0
         replace hx246_1 := clTr HB.out hx246_1
         replace hx246_2 := clTr HB.out hx246_2
         replace hx246_3 := clTr HB.out hx246_3
         replace p246 := eq_true p246
         replace q246 := eq_true q246
         have q51 : (x7_2 : Int) ≤ ((x5_1.length : Int) : Int) := od_
         obtain ⟨i051, hi051, _, hsz51, _⟩ := info_parts info72
         have hroom51 : x5_1.length ≤ co6 := (Kd.R_reads' HO_5.out).2.1
         have hC51 : Kd.C k72 _ Ao6 x5_1.length x5_1 := (Kd.R_reads' HO_5.out).2.2
         have q051 : (0 : Int) ≤ (x7_2 : Int) := od_
         have hcut51 := cut_from (P := Try.prog) 32 72 .i64 Try.underlying32 hi051 4 hsz51 Ao6 x5_1.length co6 x7_2 q051 q51
         have hr51 := Kd.C_drop (m := (x7_2 : Int).toNat) (c := co6) hC51 (by omega) hroom51
         obtain ⟨A51, hA51⟩ : ∃ A1, A1 = (if co6 = (x7_2 : Int).toNat then Ao6 else (Ao6 : Option Addr).map (·.add ((x7_2 : Int).toNat * 4))) := ⟨_, rfl⟩
         obtain ⟨c51, hc51⟩ : ∃ c1, c1 = co6 - (x7_2 : Int).toNat := ⟨_, rfl⟩
         have hy51 : y250.length = x5_1.length - (x7_2 : Int).toNat := (by rw [Ny250.out, List.length_drop] <;> omega)
         rw [show (x5_1).drop (x7_2 : Int).toNat = y250 from Ny250.out.symm] at hr51
         replace hr51 : Kd.C k72 _ A51 y250.length y250 := (by rw [hA51]; exact hr51)
         rw [← hy51, ← hA51, ← hc51] at hcut51
         have HR253 := Aside0.mk hr51
         have HC253 := Aside0.mk (show y250.length ≤ c51 from by rw [hy51, hc51]; exact Nat.sub_le_sub_right hroom51 _)
         clear hr51 hC51 hroom51 hi051 hsz51 hc51
         have KY51 := Aside0.mk hy51
         have KA51 := Aside0.mk hA51
         clear hy51 hA51
         have KL51 := Aside0.mk (show (x7_2 : Int).toNat ≤ x5_1.length from by omega)
         replace q51 := eq_true q51
         refine start_ (n := 10) (S := fun w' => w'.cell? (ad246.add ((x6_1).toNat * 4)) = some (.int .i64 ((rd_T72 l1 x6_1).f0.f0)) ∧ w'.cell? ⟨(ad246.add ((x6_1).toNat * 4)).block, (ad246.add ((x6_1).toNat * 4)).off + 1, none⟩ = some (.int .i64 ((rd_T72 l1 x6_1).f0.f1)) ∧ w'.cell? ⟨(ad246.add ((x6_1).toNat * 4)).block, (ad246.add ((x6_1).toNat * 4)).off + 2, none⟩ = some (.int .i64 ((rd_T72 l1 x6_1).f0.f2)) ∧ w'.cell? ⟨(ad246.add ((x6_1).toNat * 4)).block, (ad246.add ((x6_1).toNat * 4)).off + 3, none⟩ = some (.int .i64 ((rd_T72 l1 x6_1).f1))) (ds := []) (bv_ 10 0) (by kernel_rfl) rfl rfl ⟨(clTr HB.out hw246_0 :), (clTr HB.out hw246_1 :), (clTr HB.out hw246_2 :), (clTr HB.out hw246_3 :)⟩ (fun hHeld => ?_); refine with_tabW spec_l08Sorted.tab8 spec_l08Sorted.bits8 (fun HT_ HW_ => ?_)
         generalize w49.drew = w50 at HO_5 HB HR253 hx246_0 hx246_1 hx246_2 hx246_3 hHeld ⊢
         refine px_ HT_ 0 40 1 ?_
         refine px_ HT_ 1 41 3 ?_
         refine px_ HT_ 2 42 7 ?_
         refine px_ HT_ 5 45 39 ?_
         refine px_ HT_ 6 46 103 ?_
         refine px_ HT_ 7 47 231 ?_
         refine ta_ HT_ HW_ 3 (some 43) (bv_ 10 239) hHeld ?_ (hy := by rintro w' ⟨s0, s1, s2, s3⟩; go_simp; with_reducible rfl)
         refine on_ HT_ 4 (some 44) (bv_ 10 255) (fun K hK => ?_)
         refine Kd.R_lit_step k72 _ 72 ?hg (N := 44) ?hd (xs := ([(⟨(⟨(rd_T72 l1 x6_1).f0.f0, (rd_T72 l1 x6_1).f0.f1, (rd_T72 l1 x6_1).f0.f2⟩ : S31), (rd_T72 l1 x6_1).f1⟩ : S72)] : List (S72))) (inner := [.int .i64 ((rd_T72 l1 x6_1).f0.f0), .int .i64 ((rd_T72 l1 x6_1).f0.f1), .int .i64 ((rd_T72 l1 x6_1).f0.f2), .int .i64 ((rd_T72 l1 x6_1).f1)]) (ok := fun _ => True) (okp := fun _ => True) ?hr ?hp (fun _ hk => hk) trivial (Below.refl _ _) (Nat.le_refl _) (by simp) ?_; (case hd => rfl); (case hg => rfl); (case hr => first | (go_simp; done) | (go_simp; rfl)); (case hp => exact (Reps.c4 (show Kd.M k72 _ _ _ (⟨(⟨(rd_T72 l1 x6_1).f0.f0, (rd_T72 l1 x6_1).f0.f1, (rd_T72 l1 x6_1).f0.f2⟩ : S31), (rd_T72 l1 x6_1).f1⟩ : S72) [.int .i64 ((rd_T72 l1 x6_1).f0.f0), .int .i64 ((rd_T72 l1 x6_1).f0.f1), .int .i64 ((rd_T72 l1 x6_1).f0.f2), .int .i64 ((rd_T72 l1 x6_1).f1)] from (k72_mkM _ _ _ (⟨(⟨(rd_T72 l1 x6_1).f0.f0, (rd_T72 l1 x6_1).f0.f1, (rd_T72 l1 x6_1).f0.f2⟩ : S31), (rd_T72 l1 x6_1).f1⟩ : S72) )) (Reps.none _ _)))
         intro v248 w52 ho53 hb hg_ hnew_
         clear hg_ hnew_
         (first | rw [← Ny247.out] at ho53 | (simp only [Int.reduceToNat] at ho53; rw [← Ny247.out] at ho53))
         have HO249 := Aside0.mk (Kd.R_lower (Kd.R_new' ho53 (Kd.R_lt (ra_ HO_5.out))) (below_size (bw_ HB).out))
         replace HO_5 := Aside0.mk (Kd.R_elder' (ra_ HO_5.out) (Kd.R_base ho53) hb)
         replace HR253 := Aside0.mk (Kd.C_below (by repeat (first | (with_reducible exact HR253.out) | (with_reducible refine Kd.C_alloc ?_ _) | (with_reducible refine Kd.C_drewN ?_ _) | (with_reducible refine Kd.C_drew ?_) | exact HR253.out)) hb)
         replace HB := bt_ HB hb
         clear hb ho53
         refine hK.out _ _ ⟨(clTr HB.out hw246_0 :), (clTr HB.out hw246_1 :), (clTr HB.out hw246_2 :), (clTr HB.out hw246_3 :)⟩ (fun hHeld => ?_)
         clear hK K
         refine nm_ (some 44) ?_
         refine on_ HT_ 8 (some 48) (bv_ 10 511) (fun K hK => ?_)
         refine Kd.R_append_rows_step k72 (w0 := w) w.heap.size (by rfl) (.tmp 44) (.tmp 47) 32 72 (.agg #[(.int .i64 0), (.int .i64 0), (.int .i64 0), (.int .i64 0)]) 32 rfl Try.underlying32 info72 rfl (by decide) (by omega) v248 y247 y250 _ _ _ (fun k_ => some k_ ≠ (.slice Ao6 x5_1.length co6 : Value).ownBlock) (fun _ => False) rfl rfl ?aO ?aR (fun _ _ h => h) (fun _ h => h.elim) ?aF ?aB ?aS ?aL ?_
         (case aR => repeat (first | exact (by repeat (first | (with_reducible exact HR253.out) | (with_reducible refine Kd.C_alloc ?_ _) | (with_reducible refine Kd.C_drewN ?_ _) | (with_reducible refine Kd.C_drew ?_) | exact HR253.out)) | (with_reducible refine Kd.C_alloc ?_ _) | (with_reducible refine Kd.C_drewN ?_ _) | (with_reducible refine Kd.C_drew ?_)))
         (case aB => exact (bw_ HB).out)
         (case aF => exact (fun k_ hk => Kd.fresh' (Kd.R_lt (ra_ HO_5.out)) k_ hk))
         (case aO => exact (by (with_reducible repeat (first | apply Kd.R_alloc | apply Kd.R_drewN | apply Kd.R_drew)); exact Kd.R_mono HO249.out (fun _ hk => hk.2)))
         (case aS => exact (below_size (bw_ HB).out))
         (case aL => have := LMc44.out; omega)
         intro v255 w54 ho hb hg hat
         rw [← Ny254.out] at ho
         have n0_ := Aside0.mk (Kd.R_after (ok := (fun _ => True)) (ra_ HO_5.out) hg hat)
         have n1_ := Aside0.mk (hb)
         have n2_ := Aside0.mk ((show Kd.C k72 w54 A51 y250.length y250 from by rw [Ny250.out, KA51.out]; exact Kd.C_drop (m := (x7_2 : Int).toNat) (c := co6) ((Kd.R_reads' (Kd.R_after (ok := (fun _ => True)) (ra_ HO_5.out) hg hat)).2.2) KL51.out ((Kd.R_reads' (Kd.R_after (ok := (fun _ => True)) (ra_ HO_5.out) hg hat)).2.1)))
         have n3_ := Aside0.mk (ho)
         clear HO_5
         clear HB
         clear HR253
         clear HO249
         have HO_5 := n0_
         have HB := n1_
         have HR253 := n2_
         have HO256 := n3_
         clear n0_ n1_ n2_ n3_
         clear ho hb hg hat
         refine hK.out _ _ ⟨(clTr HB.out hw246_0 :), (clTr HB.out hw246_1 :), (clTr HB.out hw246_2 :), (clTr HB.out hw246_3 :)⟩ (fun hHeld => ?_)
         clear hK K
         refine nm_ (some 48) ?_
         refine px_ HT_ 9 8 1023 ?_
         refine done_ (done_of HT_.out (by kernel_rfl)) ?_
         try go_wp2_with (first | ((refine gd_ 49 ?_); refine Kd.R_lit k72 _ 72 ?hg (N := 49) ?hd (xs := ([] : List (S72))) (inner := []) (ok := fun _ => True) (okp := fun _ => True) ?hr ?hp (fun _ hk => hk) trivial (Below.refl _ _) (Nat.le_refl _) (by simp) ?_; (case hd => rfl); (case hg => rfl); (case hr => first | (go_simp; done) | (go_simp; rfl)); (case hp => exact (Reps.none _ _)); intro v258 w55 ho56 hb hg_ hnew_; clear hg_ hnew_; (first | rw [← Ny257.out] at ho56 | (simp only [Int.reduceToNat] at ho56; rw [← Ny257.out] at ho56)); have HO259 := Aside0.mk (Kd.R_lower (Kd.R_new' (Kd.R_new' ho56 (Kd.R_lt (ra_ HO_5.out))) (Kd.R_lt (ra_ HO256.out))) (below_size (bw_ HB).out)); replace HO_5 := Aside0.mk (Kd.R_elder' (ra_ HO_5.out) (Kd.R_base ho56) hb); replace HO256 := Aside0.mk (Kd.R_elder' (ra_ HO256.out) (Kd.R_base ho56) hb); replace HR253 := Aside0.mk (Kd.C_below (by repeat (first | (with_reducible exact HR253.out) | (with_reducible refine Kd.C_alloc ?_ _) | (with_reducible refine Kd.C_drewN ?_ _) | (with_reducible refine Kd.C_drew ?_) | exact HR253.out)) hb); replace HB := bt_ HB hb; clear hb ho56; have q57 : (x7_2 : Int) ≤ ((x5_1.length : Int) : Int) := od_; obtain ⟨i057, hi057, _, hsz57, _⟩ := info_parts info72; have hroom57 : x5_1.length ≤ co6 := (Kd.R_reads' HO_5.out).2.1; have hC57 : Kd.C k72 _ Ao6 x5_1.length x5_1 := (Kd.R_reads' HO_5.out).2.2; have hcut57 := cut_to (P := Try.prog) 32 72 .i64 Try.underlying32 hi057 Ao6 x5_1.length co6 x7_2 od_ q57 hroom57; have hr57 := Kd.C_take (m := (x7_2 : Int).toNat) hC57 (by omega); have hy57 : y260.length = (x7_2 : Int).toNat := (by rw [Ny260.out, List.length_take]; omega); rw [← Ny260.out] at hr57; rw [← hy57] at hcut57; have HR263 := Aside0.mk hr57; have HC263 := Aside0.mk (show y260.length ≤ co6 from by omega); clear hr57 hC57 hroom57 hi057 hsz57; have KY57 := Aside0.mk hy57; clear hy57; have KL57 := Aside0.mk (show (x7_2 : Int).toNat ≤ x5_1.length from by omega); replace q57 := eq_true q57) | ((with_reducible refine gate_builtin (b := .append) (xs := #[.tmp 49, .tmp 52]) rfl ?_); at_builtin; refine Kd.R_append_rows k72 (w0 := w) w.heap.size rfl (.tmp 49) (.tmp 52) 32 72 (.agg #[(.int .i64 0), (.int .i64 0), (.int .i64 0), (.int .i64 0)]) 32 rfl Try.underlying32 info72 rfl (by decide) (by omega) v258 y257 y260 _ _ _ (fun k_ => some k_ ≠ (.slice Ao6 x5_1.length co6 : Value).ownBlock ∧ some k_ ≠ (v255 : Value).ownBlock) (fun _ => False) rfl rfl ?aO ?aR (fun _ _ h => h) (fun _ h => h.elim) ?aF ?aB ?aS ?aL ?_; (case aR => repeat (first | exact (by repeat (first | (with_reducible exact HR263.out) | (with_reducible refine Kd.C_alloc ?_ _) | (with_reducible refine Kd.C_drewN ?_ _) | (with_reducible refine Kd.C_drew ?_) | exact HR263.out)) | (with_reducible refine Kd.C_alloc ?_ _) | (with_reducible refine Kd.C_drewN ?_ _) | (with_reducible refine Kd.C_drew ?_))); (case aB => exact (bw_ HB).out); (case aF => exact (fun k_ hk => ⟨Kd.fresh' (Kd.R_lt (ra_ HO_5.out)) k_ hk, Kd.fresh' (Kd.R_lt (ra_ HO256.out)) k_ hk⟩)); (case aO => exact (by (with_reducible repeat (first | apply Kd.R_alloc | apply Kd.R_drewN | apply Kd.R_drew)); exact Kd.R_mono HO259.out (fun _ hk => ⟨hk.1.2, hk.2⟩))); (case aS => exact (below_size (bw_ HB).out)); (case aL => have := LMc47.out; omega); intro v265 w58 ho hb hg hat; rw [← Ny264.out] at ho; have n0_ := Aside0.mk (Kd.R_after (ok := (fun k_ => some k_ ≠ (v255 : Value).ownBlock)) (by (with_reducible repeat (first | apply Kd.R_alloc | apply Kd.R_drewN | apply Kd.R_drew)); exact Kd.R_mono HO_5.out (fun _ hk => ⟨hk.1.2, hk.2⟩)) hg hat); have n1_ := Aside0.mk (Kd.R_after (ok := (fun k_ => some k_ ≠ (.slice Ao6 x5_1.length co6 : Value).ownBlock)) (ra_ HO256.out) hg hat); have n2_ := Aside0.mk (hb); have n3_ := Aside0.mk ((show Kd.C k72 w58 A51 y250.length y250 from by rw [Ny250.out, KA51.out]; exact Kd.C_drop (m := (x7_2 : Int).toNat) (c := co6) ((Kd.R_reads' (Kd.R_after (ok := (fun k_ => some k_ ≠ (v255 : Value).ownBlock)) (by (with_reducible repeat (first | apply Kd.R_alloc | apply Kd.R_drewN | apply Kd.R_drew)); exact Kd.R_mono HO_5.out (fun _ hk => ⟨hk.1.2, hk.2⟩)) hg hat)).2.2) KL51.out ((Kd.R_reads' (Kd.R_after (ok := (fun k_ => some k_ ≠ (v255 : Value).ownBlock)) (by (with_reducible repeat (first | apply Kd.R_alloc | apply Kd.R_drewN | apply Kd.R_drew)); exact Kd.R_mono HO_5.out (fun _ hk => ⟨hk.1.2, hk.2⟩)) hg hat)).2.1))); have n4_ := Aside0.mk ((show Kd.C k72 w58 Ao6 y260.length y260 from by rw [Ny260.out]; exact Kd.C_take (m := (x7_2 : Int).toNat) ((Kd.R_reads' (Kd.R_after (ok := (fun k_ => some k_ ≠ (v255 : Value).ownBlock)) (by (with_reducible repeat (first | apply Kd.R_alloc | apply Kd.R_drewN | apply Kd.R_drew)); exact Kd.R_mono HO_5.out (fun _ hk => ⟨hk.1.2, hk.2⟩)) hg hat)).2.2) KL57.out)); have n5_ := Aside0.mk (ho); clear HO_5; clear HO256; clear HB; clear HR253; clear HR263; clear HO259; have HO_5 := n0_; have HO256 := n1_; have HB := n2_; have HR253 := n3_; have HR263 := n4_; have HO266 := n5_; clear n0_ n1_ n2_ n3_ n4_ n5_; clear ho hb hg hat; obtain ⟨Ao60, co60, eo60⟩ := Kd.R_slice HO256.out; subst eo60) | ((with_reducible refine gate_builtin (b := .append) (xs := #[.tmp 53, .tmp 54]) rfl ?_); at_builtin; refine Kd.R_append_rows k72 (w0 := w) w.heap.size rfl (.tmp 53) (.tmp 54) 32 72 (.agg #[(.int .i64 0), (.int .i64 0), (.int .i64 0), (.int .i64 0)]) 32 rfl Try.underlying32 info72 rfl (by decide) (by omega) v265 y264 y254 _ _ _ (fun k_ => some k_ ≠ (.slice Ao6 x5_1.length co6 : Value).ownBlock ∧ some k_ ≠ (.slice Ao60 y254.length co60 : Value).ownBlock) (fun _ => False) rfl rfl ?aO ?aR (fun _ _ h => h) (fun _ h => h.elim) ?aF ?aB ?aS ?aL ?_; (case aR => repeat (first | exact (Kd.R_reads' HO256.out).2.2 | (with_reducible refine Kd.C_alloc ?_ _) | (with_reducible refine Kd.C_drewN ?_ _) | (with_reducible refine Kd.C_drew ?_))); (case aB => exact (bw_ HB).out); (case aF => exact (fun k_ hk => ⟨Kd.fresh' (Kd.R_lt (ra_ HO_5.out)) k_ hk, Kd.fresh' (Kd.R_lt (ra_ HO256.out)) k_ hk⟩)); (case aO => exact (ra_ HO266.out)); (case aS => exact (below_size (bw_ HB).out)); (case aL => have := LMc48.out; omega); intro v268 w59 ho hb hg hat; rw [← Ny267.out] at ho; have n0_ := Aside0.mk (Kd.R_after (ok := (fun k_ => some k_ ≠ (.slice Ao60 y254.length co60 : Value).ownBlock)) (ra_ HO_5.out) hg hat); have n1_ := Aside0.mk (Kd.R_after (ok := (fun k_ => some k_ ≠ (.slice Ao6 x5_1.length co6 : Value).ownBlock)) (ra_ HO256.out) hg hat); have n2_ := Aside0.mk (hb); have n3_ := Aside0.mk ((show Kd.C k72 w59 A51 y250.length y250 from by rw [Ny250.out, KA51.out]; exact Kd.C_drop (m := (x7_2 : Int).toNat) (c := co6) ((Kd.R_reads' (Kd.R_after (ok := (fun k_ => some k_ ≠ (.slice Ao60 y254.length co60 : Value).ownBlock)) (ra_ HO_5.out) hg hat)).2.2) KL51.out ((Kd.R_reads' (Kd.R_after (ok := (fun k_ => some k_ ≠ (.slice Ao60 y254.length co60 : Value).ownBlock)) (ra_ HO_5.out) hg hat)).2.1))); have n4_ := Aside0.mk ((show Kd.C k72 w59 Ao6 y260.length y260 from by rw [Ny260.out]; exact Kd.C_take (m := (x7_2 : Int).toNat) ((Kd.R_reads' (Kd.R_after (ok := (fun k_ => some k_ ≠ (.slice Ao60 y254.length co60 : Value).ownBlock)) (ra_ HO_5.out) hg hat)).2.2) KL57.out)); have n5_ := Aside0.mk (ho); clear HO_5; clear HO256; clear HB; clear HR253; clear HR263; clear HO266; have HO_5 := n0_; have HO256 := n1_; have HB := n2_; have HR253 := n3_; have HR263 := n4_; have HO269 := n5_; clear n0_ n1_ n2_ n3_ n4_ n5_; clear ho hb hg hat))
         go_roundg k2
         case measure => have := HK1.out; have := HK2.out; omega
         case rel => exact ⟨(y267), (wrap64 (x6_1 + 1)), en_, H', ⟨by have := HK1.out; have := HK2.out; omega⟩, ⟨by (with_reducible repeat (first | apply Kd.R_alloc | apply Kd.R_drewN | apply Kd.R_drew)); exact Kd.R_mono HO269.out (fun _ hk => trivial)⟩, bw_ HB⟩
        rw [if_neg c48] at H
        exact absurd H (by simp)
       rw [if_neg c47] at H
       exact absurd H (by simp)
      rw [if_neg c44] at H
      exact absurd H (by simp)
     rw [if_neg c43] at H
     exact absurd H (by simp)
    rw [if_neg c42] at H
    exact absurd H (by simp)
  obtain rfl := si_ H
  go_wp2
  go_ret
  exact ⟨_, es_, by (with_reducible repeat (first | apply Kd.R_alloc | apply Kd.R_drewN | apply Kd.R_drew)); exact HO_5.out, (bw_ HB).out⟩
end Go.Proofs.Ytdfcoebadjhjlaa.QH
