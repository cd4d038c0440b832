import Derived.Test.YtdfcoebadjhjlaaQGx6
import Derived.Test.YtdfcoebadjhjlaaQGx25
namespace Go.Proofs.Ytdfcoebadjhjlaa.QG
open Go.RowKit Go.Proofs.YtdfcoebadjhjlaaW.PrintWords Go.Proofs.YtdfcoebadjhjlaaW.PrintLast Go.Proofs.YtdfcoebadjhjlaaW.PrintMore
attribute [local go_sem] isSome_setCell max2_int min2_int max_two min_two max_three min_three max_four min_four
set_option linter.unusedVariables false
set_option linter.unusedSimpArgs false

/-! ### spec_l08Sorted: function 61 -/
mutual
def spec_l08Sorted.l0 : Nat → Int → List (S72) → List (S72) → Int → Option ((List (S72)))
 | 0, _, _, _, _ => none
 | k + 1, x0, x1, x5, x6 => if x6 < (x1.length : Int) then (spec_l08Sorted.l1 k x0 x1 x5 x6 (x5.length : Int)) else (some x5)
def spec_l08Sorted.l1 : Nat → Int → List (S72) → List (S72) → Int → Int → Option ((List (S72)))
 | 0, _, _, _, _, _ => none
 | k + 1, x0, x1, x5, x6, x7 => if x7 > 0 then (if 0 ≤ (wrap64 (x7 - 1)) then (if (wrap64 (x7 - 1)) < (x5.length : Int) then ((spec_l08Key.f k x0 ((rd_T72 x5 (wrap64 (x7 - 1))).f0.f0) ((rd_T72 x5 (wrap64 (x7 - 1))).f0.f1) ((rd_T72 x5 (wrap64 (x7 - 1))).f0.f2)).bind fun t213 => (if 0 ≤ x6 then (if x6 < (x1.length : Int) then ((spec_l08Key.f k x0 ((rd_T72 x1 x6).f0.f0) ((rd_T72 x1 x6).f0.f1) ((rd_T72 x1 x6).f0.f2)).bind fun t215 => (if t213 > t215 then (spec_l08Sorted.l1 k x0 x1 x5 x6 (wrap64 (x7 - 1))) else ((some (([(⟨(⟨(rd_T72 x1 x6).f0.f0, (rd_T72 x1 x6).f0.f1, (rd_T72 x1 x6).f0.f2⟩ : S31), (rd_T72 x1 x6).f1⟩ : S72)] : List (S72)) : List (S72))).bind fun y217 => (if 0 ≤ x7 then (if x7 ≤ (x5.length : Int) then ((some (x5.drop (x7 : Int).toNat : List (S72))).bind fun y220 => (if y217.length + y220.length < 4398046511104 then ((some (y217 ++ y220 : List (S72))).bind fun y224 => ((some (([] : List (S72)) : List (S72))).bind fun y227 => ((some (x5.take (x7 : Int).toNat : List (S72))).bind fun y230 => (if y227.length + y230.length < 4398046511104 then ((some (y227 ++ y230 : List (S72))).bind fun y234 => (if y234.length + y224.length < 4398046511104 then (spec_l08Sorted.l0 k x0 x1 (y234 ++ y224) (wrap64 (x6 + 1))) else (none))) else (none))))) else (none))) else (none)) else (none))))) else (none)) else (none))) else (none)) else (none)) else (if 0 ≤ x6 then (if x6 < (x1.length : Int) then ((some (([(⟨(⟨(rd_T72 x1 x6).f0.f0, (rd_T72 x1 x6).f0.f1, (rd_T72 x1 x6).f0.f2⟩ : S31), (rd_T72 x1 x6).f1⟩ : S72)] : List (S72)) : List (S72))).bind fun y241 => (if 0 ≤ x7 then (if x7 ≤ (x5.length : Int) then ((some (x5.drop (x7 : Int).toNat : List (S72))).bind fun y244 => (if y241.length + y244.length < 4398046511104 then ((some (y241 ++ y244 : List (S72))).bind fun y248 => ((some (([] : List (S72)) : List (S72))).bind fun y251 => ((some (x5.take (x7 : Int).toNat : List (S72))).bind fun y254 => (if y251.length + y254.length < 4398046511104 then ((some (y251 ++ y254 : List (S72))).bind fun y258 => (if y258.length + y248.length < 4398046511104 then (spec_l08Sorted.l0 k x0 x1 (y258 ++ y248) (wrap64 (x6 + 1))) else (none))) else (none))))) else (none))) else (none)) else (none))) else (none)) else (none))
end
def spec_l08Sorted.f (k : Nat) (a0 : Int) (l1 : List (S72)) : Option ((List (S72))) := spec_l08Sorted.l0 k a0 l1 (([] : List (S72))) 0
def spec_l08Sorted.T6 : Bool × List (List Nat × List Nat) := (true, [([], []), ([0], [0]), ([1], [1]), ([2], [2]), ([2], [2]), ([2], [2]), ([5, 2], [2, 5]), ([4, 6, 2], [2, 4, 6]), ([7, 2], [2, 7]), ([8, 2], [2, 8]), ([3, 9, 2, 2], [2, 3, 9]), ([2], [2]), ([2], [2]), ([2], [2]), ([12, 13, 2], [2, 12, 13]), ([14, 2], [2, 14]), ([15, 2], [2, 15]), ([11, 16, 10, 2], [2, 11, 16]), ([10, 17, 2], [2, 10, 17]), ([2, 18], [2, 18])])
def spec_l08Sorted.B6 : List Nat := [0, 1, 3, 7, 7, 7, 39, 119, 247, 503, 1023, 7, 7, 7, 12295, 28679, 61447, 131071, 262143, 524287]
theorem spec_l08Sorted.tab6 : rtab .any (opsOf Try.f61 6) = spec_l08Sorted.T6 := by kernel_rfl
theorem spec_l08Sorted.bits6 : waitsOk spec_l08Sorted.T6.2 spec_l08Sorted.B6 = true := by kernel_rfl
def spec_l08Sorted.T8 : Bool × List (List Nat × List Nat) := (true, [([], []), ([], []), ([0, 1], [0, 1]), ([2], [2]), ([3], [3]), ([], []), ([], []), ([5, 6], [5, 6]), ([4, 7], [4, 7]), ([8, 8, 0, 1, 2, 3, 4, 5, 6, 7, 8], [8])])
def spec_l08Sorted.B8 : List Nat := [0, 0, 3, 7, 15, 0, 0, 96, 255, 511]
theorem spec_l08Sorted.tab8 : rtab .any (opsOf Try.f61 8) = spec_l08Sorted.T8 := by kernel_rfl
theorem spec_l08Sorted.bits8 : waitsOk spec_l08Sorted.T8.2 spec_l08Sorted.B8 = true := by kernel_rfl
set_option maxHeartbeats 8000000 in
set_option maxRecDepth 100000 in
theorem spec_l08Sorted.calls (k : Nat) (a0 : Int) (A1 : Option Addr) (c1 : Nat) (l1 : List (S72)) (r : List (S72)) (w : World) (hr1 : Kd.C k72 w A1 l1.length l1) (hc1 : l1.length ≤ c1) (h : spec_l08Sorted.f k a0 l1 = some r) :
  Calls Try.prog 61 #[.int .i64 a0, .slice A1 l1.length c1] w fun e w' => ∃ v0_ : Value, e = .returned (v0_) ∧ Kd.R k72 72 w' w.heap.size (fun _ => True) v0_ r ∧ Below w.heap.size w w' := by
 have hu72 := Try.underlying72
 have hu31 := Try.underlying31
 have HR1 := Aside0.mk hr1
 have HC1 := Aside0.mk hc1
 clear hr1 hc1
 have HB := Aside0.mk (Below.refl w.heap.size w)
 unfold spec_l08Sorted.f at h
 have H := h
 clear h
 obtain ⟨y209, hy209⟩ : ∃ y_ : List (S72), y_ = (([] : List (S72))) := ⟨_, rfl⟩
 replace H : (spec_l08Sorted.l0 k a0 l1 y209 0) = some r := by first | (rw [hy209]; with_reducible exact H) | (have H2_ := (Option.bind_some _ _).symm.trans H; rw [hy209]; with_reducible exact H2_) | (have H2_ := (Option.bind_some _ _).symm.trans H; with_reducible exact H2_) | with_reducible exact H | (rw [hy209]; exact H) | exact H
 have Ny209 := Aside0.mk hy209
 clear hy209
 have H' := Aside0.mk H
 clear H
 go_enter Try.func61, Try.ntmps61
 go_wp2_with (first | ((refine gd_ 9 ?_); refine Kd.R_lit k72 _ 72 ?hg (N := 9) ?hd (xs := ([] : List (S72))) (inner := []) (ok := fun _ => True) (okp := fun _ => True) ?hr ?hp (fun _ hk => hk) trivial (Below.refl _ _) (Nat.le_refl _) (by simp) ?_; (case hd => rfl); (case hg => rfl); (case hr => first | (go_simp; done) | (go_simp; rfl)); (case hp => exact (Reps.none _ _)); intro v210 w3 ho4 hb hg_ hnew_; clear hg_ hnew_; (first | rw [← Ny209.out] at ho4 | (simp only [Int.reduceToNat] at ho4; rw [← Ny209.out] at ho4)); have HO211 := Aside0.mk (Kd.R_lower ho4 (below_size (bw_ HB).out)); replace HB := bt_ HB hb; clear hb ho4))
 go_loopg [5, 6] k (fun kq v5 v6 w' => ∃ (x5_1 : List (S72)) (x6_1 : Int), v6 = .int .i64 x6_1 ∧ Aside0 (spec_l08Sorted.l0 kq a0 l1 x5_1 x6_1 = some r) ∧ Aside0 (kq ≤ k) ∧ Aside0 (Kd.R k72 72 w' w.heap.size (fun _ => True) v5 x5_1) ∧ Aside0 (Below w.heap.size w w'))
 case atStart => exact ⟨(y209), (0), en_, H', ⟨Nat.le_refl _⟩, ⟨by (with_reducible repeat (first | apply Kd.R_alloc | apply Kd.R_drewN | apply Kd.R_drew)); exact HO211.out⟩, bw_ HB⟩
 clear H'
 try clear c1
 obtain ⟨x5_1, x6_1, rfl, HA, HK1, HO_5, HB⟩ := hrel
 cases gk with
 | zero => exact absurd HA.out (by simp [spec_l08Sorted.l0])
 | succ k1 =>
  have H := HA.out
  clear HA
  simp only [spec_l08Sorted.l0] at H
  replace H := il_ H
  rcases H with ⟨c5b0, H⟩ | ⟨c5b0, H⟩
  ·have H' := Aside0.mk H
   clear H
   obtain ⟨Ao6, co6, eo6⟩ := Kd.R_slice HO_5.out
   subst eo6
   go_wp2
   go_loopg [7] k1 (fun kq v7 w' => ∃ (x7_2 : Int), v7 = .int .i64 x7_2 ∧ Aside0 (spec_l08Sorted.l1 kq a0 l1 x5_1 x6_1 x7_2 = some r) ∧ Aside0 (kq ≤ k1) ∧ Aside0 (Kd.R k72 72 w' w.heap.size (fun _ => True) (.slice Ao6 x5_1.length co6) x5_1) ∧ Aside0 (Below w.heap.size w w'))
   case atStart => exact ⟨((x5_1.length : Int)), en_, H', ⟨Nat.le_refl _⟩, ⟨by (with_reducible repeat (first | apply Kd.R_alloc | apply Kd.R_drewN | apply Kd.R_drew)); exact HO_5.out⟩, bw_ HB⟩
   clear H'
   try clear c1
   try clear c5b0
   obtain ⟨x7_2, rfl, HA, HK2, HO_5, HB⟩ := hrel
   cases gk with
   | zero => exact absurd HA.out (by simp [spec_l08Sorted.l1])
   | succ k2 =>
    have H := HA.out
    clear HA
    simp only [spec_l08Sorted.l1] at H
    replace H := ig_ H
    rcases H with ⟨c7b0, H⟩ | ⟨c7b0, H⟩
    ·obtain ⟨ji8, hji8⟩ : ∃ j_ : Int, (wrap64 (x7_2 - 1)) = j_ := ⟨_, rfl⟩
     replace H : (if 0 ≤ (ji8) then (if (ji8) < (x5_1.length : Int) then ((spec_l08Key.f k2 a0 ((rd_T72 x5_1 (ji8)).f0.f0) ((rd_T72 x5_1 (ji8)).f0.f1) ((rd_T72 x5_1 (ji8)).f0.f2)).bind fun t213 => (if 0 ≤ x6_1 then (if x6_1 < (l1.length : Int) then ((spec_l08Key.f k2 a0 ((rd_T72 l1 x6_1).f0.f0) ((rd_T72 l1 x6_1).f0.f1) ((rd_T72 l1 x6_1).f0.f2)).bind fun t215 => (if t213 > t215 then (spec_l08Sorted.l1 k2 a0 l1 x5_1 x6_1 ji8) else ((some (([(⟨(⟨(rd_T72 l1 x6_1).f0.f0, (rd_T72 l1 x6_1).f0.f1, (rd_T72 l1 x6_1).f0.f2⟩ : S31), (rd_T72 l1 x6_1).f1⟩ : S72)] : List (S72)) : List (S72))).bind fun y217 => (if 0 ≤ x7_2 then (if x7_2 ≤ (x5_1.length : Int) then ((some (x5_1.drop (x7_2 : Int).toNat : List (S72))).bind fun y220 => (if y217.length + y220.length < 4398046511104 then ((some (y217 ++ y220 : List (S72))).bind fun y224 => ((some (([] : List (S72)) : List (S72))).bind fun y227 => ((some (x5_1.take (x7_2 : Int).toNat : List (S72))).bind fun y230 => (if y227.length + y230.length < 4398046511104 then ((some (y227 ++ y230 : List (S72))).bind fun y234 => (if y234.length + y224.length < 4398046511104 then (spec_l08Sorted.l0 k2 a0 l1 (y234 ++ y224) (wrap64 (x6_1 + 1))) else (none))) else (none))))) else (none))) else (none)) else (none))))) else (none)) else (none))) else (none)) else (none)) = some r := by first | (rw [hji8] at H; exact H) | (simp only [hji8] at H ⊢; exact H)
     have hji8w : (IntKind.i64.wrap (x7_2 - 1)) = ji8 := (i64_w _).trans hji8
     replace H := imn_ H
     obtain ⟨c9b0, H⟩ := H
     replace H := iln_ H
     obtain ⟨c10b0, H⟩ := H
     replace H := oc_ H
     obtain ⟨t213, A11, H⟩ := H
     replace H := imn_ H
     obtain ⟨c12b0, H⟩ := H
     replace H := iln_ H
     obtain ⟨c13b0, H⟩ := H
     replace H := oc_ H
     obtain ⟨t215, A14, H⟩ := H
     replace H := ig_ H
     rcases H with ⟨c15b0, H⟩ | ⟨c15b0, H⟩
     ·have H' := Aside0.mk H
      clear H
      try go_wp2
      replace HO_5 := Aside0.mk (Kd.R_drew HO_5.out)
      replace HB := be_ HB
      have p212 : 0 ≤ ((ji8) : Int) := od_
      have q212 : (ji8) < (x5_1.length : Int) := od_
      obtain ⟨ad212, e212, hx212_0, hx212_1, hx212_2, hx212_3⟩ := at_T72 (Kd.R_reads' HO_5.out).2.2 (ji8) p212 q212
      cases e212
      replace p212 := eq_true p212
      replace q212 := eq_true q212
      have p214 : 0 ≤ (x6_1 : Int) := od_
      have q214 : x6_1 < (l1.length : Int) := od_
      obtain ⟨ad214, e214, hx214_0, hx214_1, hx214_2, hx214_3⟩ := at_T72 HR1.out x6_1 p214 q214
      have hw214_3 := hx214_3
      have hw214_2 := hx214_2
      have hw214_1 := hx214_1
      have hw214_0 := hx214_0
      cases e214
      replace hx214_0 := clTr HB.out hx214_0
      replace hx214_1 := clTr HB.out hx214_1
      replace hx214_2 := clTr HB.out hx214_2
      replace hx214_3 := clTr HB.out hx214_3
      replace p214 := eq_true p214
      replace q214 := eq_true q214
      refine start_ (n := 20) (S := fun w' => w'.cell? (ad212.add (((ji8)).toNat * 4)) = some (.int .i64 ((rd_T72 x5_1 (ji8)).f0.f0)) ∧ w'.cell? ⟨(ad212.add (((ji8)).toNat * 4)).block, (ad212.add (((ji8)).toNat * 4)).off + 1, none⟩ = some (.int .i64 ((rd_T72 x5_1 (ji8)).f0.f1)) ∧ w'.cell? ⟨(ad212.add (((ji8)).toNat * 4)).block, (ad212.add (((ji8)).toNat * 4)).off + 2, none⟩ = some (.int .i64 ((rd_T72 x5_1 (ji8)).f0.f2)) ∧ w'.cell? ⟨(ad212.add (((ji8)).toNat * 4)).block, (ad212.add (((ji8)).toNat * 4)).off + 3, none⟩ = some (.int .i64 ((rd_T72 x5_1 (ji8)).f1)) ∧ w'.cell? (ad214.add ((x6_1).toNat * 4)) = some (.int .i64 ((rd_T72 l1 x6_1).f0.f0)) ∧ w'.cell? ⟨(ad214.add ((x6_1).toNat * 4)).block, (ad214.add ((x6_1).toNat * 4)).off + 1, none⟩ = some (.int .i64 ((rd_T72 l1 x6_1).f0.f1)) ∧ w'.cell? ⟨(ad214.add ((x6_1).toNat * 4)).block, (ad214.add ((x6_1).toNat * 4)).off + 2, none⟩ = some (.int .i64 ((rd_T72 l1 x6_1).f0.f2)) ∧ w'.cell? ⟨(ad214.add ((x6_1).toNat * 4)).block, (ad214.add ((x6_1).toNat * 4)).off + 3, none⟩ = some (.int .i64 ((rd_T72 l1 x6_1).f1))) (ds := []) (bv_ 20 0) (by kernel_rfl) rfl rfl ⟨hx212_0, hx212_1, hx212_2, hx212_3, (clTr HB.out hw214_0 :), (clTr HB.out hw214_1 :), (clTr HB.out hw214_2 :), (clTr HB.out hw214_3 :)⟩ (fun hHeld => ?_); refine with_tabW spec_l08Sorted.tab6 spec_l08Sorted.bits6 (fun HT_ HW_ => ?_)
      generalize wr.drew = w16 at HO_5 HB hx212_0 hx212_1 hx212_2 hx212_3 hx214_0 hx214_1 hx214_2 hx214_3 hHeld ⊢
      refine px_ HT_ 0 18 1 ?_
      refine px_ HT_ 1 19 3 ?_
      refine px_ HT_ 2 20 7 ?_
      refine px_ HT_ 3 21 15 ?_
      refine px_ HT_ 4 22 31 ?_
      refine px_ HT_ 5 23 63 ?_
      refine px_ HT_ 6 24 127 ?_
      refine px_ HT_ 7 25 255 ?_
      refine px_ HT_ 8 26 511 ?_
      refine px_ HT_ 11 29 2559 ?_
      refine px_ HT_ 12 30 6655 ?_
      refine px_ HT_ 13 31 14847 ?_
      refine px_ HT_ 14 32 31231 ?_
      refine px_ HT_ 15 33 63999 ?_
      refine ta_ HT_ HW_ 9 (some 27) (bv_ 20 64511) hHeld ?_ (hy := by rintro w' ⟨s0, s1, s2, s3, s4, s5, s6, s7⟩; go_simp; with_reducible rfl)
      refine ta_ HT_ HW_ 16 (some 34) (bv_ 20 130047) hHeld ?_ (hy := by rintro w' ⟨s0, s1, s2, s3, s4, s5, s6, s7⟩; go_simp; with_reducible rfl)
      refine on_ HT_ 10 (some 28) (bv_ 20 131071) (fun K hK => ?_)
      refine gs_ Try.func67 #[.int .i64 a0, .agg #[.int .i64 ((rd_T72 x5_1 (ji8)).f0.f0), .int .i64 ((rd_T72 x5_1 (ji8)).f0.f1), .int .i64 ((rd_T72 x5_1 (ji8)).f0.f2)]] ?_ (hargs := by (try simp only [List.map_toArray, List.map_cons, List.map_nil]); first | done | (simp only [hji8]; rfl) | rfl | (simp only [List.length_drop, List.length_take]; rfl))
      with_reducible refine (spec_l08Key.calls k2 a0 ((rd_T72 x5_1 (ji8)).f0.f0) ((rd_T72 x5_1 (ji8)).f0.f1) ((rd_T72 x5_1 (ji8)).f0.f2) t213 _ A11.out).mono ?_
      rintro e w17 ⟨rfl, hb⟩
      have HS0_ := (hb.cell (World.block_lt_of_cell? _ _ (hHeld.1))).trans (hHeld.1)
      have HS1_ := (hb.cell (World.block_lt_of_cell? _ _ (hHeld.2.1))).trans (hHeld.2.1)
      have HS2_ := (hb.cell (World.block_lt_of_cell? _ _ (hHeld.2.2.1))).trans (hHeld.2.2.1)
      have HS3_ := (hb.cell (World.block_lt_of_cell? _ _ (hHeld.2.2.2.1))).trans (hHeld.2.2.2.1)
      refine ⟨_, rfl, ?_⟩
      replace HO_5 := rb_ HO_5 hb
      replace HB := bt_ HB hb
      try clear hb
      refine hK.out _ _ ⟨HS0_, HS1_, HS2_, HS3_, (clTr HB.out hw214_0 :), (clTr HB.out hw214_1 :), (clTr HB.out hw214_2 :), (clTr HB.out hw214_3 :)⟩ (fun hHeld => ?_)
      clear hK K
      refine nm_ (some 28) ?_
      refine on_ HT_ 17 (some 35) (bv_ 20 262143) (fun K hK => ?_)
      refine gs_ Try.func67 #[.int .i64 a0, .agg #[.int .i64 ((rd_T72 l1 x6_1).f0.f0), .int .i64 ((rd_T72 l1 x6_1).f0.f1), .int .i64 ((rd_T72 l1 x6_1).f0.f2)]] ?_
      with_reducible refine (spec_l08Key.calls k2 a0 ((rd_T72 l1 x6_1).f0.f0) ((rd_T72 l1 x6_1).f0.f1) ((rd_T72 l1 x6_1).f0.f2) t215 _ A14.out).mono ?_
      rintro e w18 ⟨rfl, hb⟩
      have HS0_ := (hb.cell (World.block_lt_of_cell? _ _ (hHeld.1))).trans (hHeld.1)
      have HS1_ := (hb.cell (World.block_lt_of_cell? _ _ (hHeld.2.1))).trans (hHeld.2.1)
      have HS2_ := (hb.cell (World.block_lt_of_cell? _ _ (hHeld.2.2.1))).trans (hHeld.2.2.1)
      have HS3_ := (hb.cell (World.block_lt_of_cell? _ _ (hHeld.2.2.2.1))).trans (hHeld.2.2.2.1)
      refine ⟨_, rfl, ?_⟩
      replace HO_5 := rb_ HO_5 hb
      replace HB := bt_ HB hb
      try clear hb
      refine hK.out _ _ ⟨HS0_, HS1_, HS2_, HS3_, (clTr HB.out hw214_0 :), (clTr HB.out hw214_1 :), (clTr HB.out hw214_2 :), (clTr HB.out hw214_3 :)⟩ (fun hHeld => ?_)
      clear hK K
      refine nm_ (some 35) ?_
      refine px_ HT_ 18 36 524287 ?_
      refine px_ HT_ 19 37 1048575 ?_
      refine done_ (done_of HT_.out (by kernel_rfl)) ?_
      try go_wp2
      go_roundg k2
      case measure => have := HK1.out; have := HK2.out; omega
      case rel => exact ⟨(ji8), (by first | rfl | (simp; done) | (simp only [← hji8] <;> (first | rfl | simp)) | (simp [*]; done)), H', ⟨by have := HK1.out; have := HK2.out; omega⟩, ⟨by (with_reducible repeat (first | apply Kd.R_alloc | apply Kd.R_drewN | apply Kd.R_drew)); exact HO_5.out⟩, bw_ HB⟩
     obtain ⟨y217, hy217⟩ : ∃ y_ : List (S72), y_ = (([(⟨(⟨(rd_T72 l1 x6_1).f0.f0, (rd_T72 l1 x6_1).f0.f1, (rd_T72 l1 x6_1).f0.f2⟩ : S31), (rd_T72 l1 x6_1).f1⟩ : S72)] : List (S72))) := ⟨_, rfl⟩
     replace H : (if 0 ≤ x7_2 then (if x7_2 ≤ (x5_1.length : Int) then ((some (x5_1.drop (x7_2 : Int).toNat : List (S72))).bind fun y220 => (if y217.length + y220.length < 4398046511104 then ((some (y217 ++ y220 : List (S72))).bind fun y224 => ((some (([] : List (S72)) : List (S72))).bind fun y227 => ((some (x5_1.take (x7_2 : Int).toNat : List (S72))).bind fun y230 => (if y227.length + y230.length < 4398046511104 then ((some (y227 ++ y230 : List (S72))).bind fun y234 => (if y234.length + y224.length < 4398046511104 then (spec_l08Sorted.l0 k2 a0 l1 (y234 ++ y224) (wrap64 (x6_1 + 1))) else (none))) else (none))))) else (none))) else (none)) else (none)) = some r := by first | (rw [hy217]; with_reducible exact H) | (have H2_ := (Option.bind_some _ _).symm.trans H; rw [hy217]; with_reducible exact H2_) | (have H2_ := (Option.bind_some _ _).symm.trans H; with_reducible exact H2_) | with_reducible exact H | (rw [hy217]; exact H) | exact H
     have Ny217 := Aside0.mk hy217
     clear hy217
     by_cases c19 : 0 ≤ x7_2
     ·rw [if_pos c19] at H
      have c19b0 := eq_true c19
      have c19b1 : decide (0 ≤ x7_2) = true := decide_eq_true c19
      clear c19
      by_cases c20 : x7_2 ≤ (x5_1.length : Int)
      ·rw [if_pos c20] at H
       have c20b0 := eq_true c20
       have c20b1 : decide (x7_2 ≤ (x5_1.length : Int)) = true := decide_eq_true c20
       clear c20
       obtain ⟨y220, hy220⟩ : ∃ y_ : List (S72), y_ = (x5_1.drop (x7_2 : Int).toNat) := ⟨_, rfl⟩
       replace H : (if y217.length + y220.length < 4398046511104 then ((some (y217 ++ y220 : List (S72))).bind fun y224 => ((some (([] : List (S72)) : List (S72))).bind fun y227 => ((some (x5_1.take (x7_2 : Int).toNat : List (S72))).bind fun y230 => (if y227.length + y230.length < 4398046511104 then ((some (y227 ++ y230 : List (S72))).bind fun y234 => (if y234.length + y224.length < 4398046511104 then (spec_l08Sorted.l0 k2 a0 l1 (y234 ++ y224) (wrap64 (x6_1 + 1))) else (none))) else (none))))) else (none)) = some r := by first | (rw [hy220]; with_reducible exact H) | (have H2_ := (Option.bind_some _ _).symm.trans H; rw [hy220]; with_reducible exact H2_) | (have H2_ := (Option.bind_some _ _).symm.trans H; with_reducible exact H2_) | with_reducible exact H | (rw [hy220]; exact H) | exact H
       have Ny220 := Aside0.mk hy220
       clear hy220
       by_cases c21 : y217.length + y220.length < 4398046511104
       ·rw [if_pos c21] at H
        have LMc21 := Aside0.mk c21
        clear c21
        obtain ⟨y224, hy224⟩ : ∃ y_ : List (S72), y_ = (y217 ++ y220) := ⟨_, rfl⟩
        replace H : ((some (([] : List (S72)) : List (S72))).bind fun y227 => ((some (x5_1.take (x7_2 : Int).toNat : List (S72))).bind fun y230 => (if y227.length + y230.length < 4398046511104 then ((some (y227 ++ y230 : List (S72))).bind fun y234 => (if y234.length + y224.length < 4398046511104 then (spec_l08Sorted.l0 k2 a0 l1 (y234 ++ y224) (wrap64 (x6_1 + 1))) else (none))) else (none)))) = some r := by first | (rw [hy224]; with_reducible exact H) | (have H2_ := (Option.bind_some _ _).symm.trans H; rw [hy224]; with_reducible exact H2_) | (have H2_ := (Option.bind_some _ _).symm.trans H; with_reducible exact H2_) | with_reducible exact H | (rw [hy224]; exact H) | exact H
        have Ny224 := Aside0.mk hy224
        clear hy224
        obtain ⟨y227, hy227⟩ : ∃ y_ : List (S72), y_ = (([] : List (S72))) := ⟨_, rfl⟩
        replace H : ((some (x5_1.take (x7_2 : Int).toNat : List (S72))).bind fun y230 => (if y227.length + y230.length < 4398046511104 then ((some (y227 ++ y230 : List (S72))).bind fun y234 => (if y234.length + y224.length < 4398046511104 then (spec_l08Sorted.l0 k2 a0 l1 (y234 ++ y224) (wrap64 (x6_1 + 1))) else (none))) else (none))) = some r := by first | (rw [hy227]; with_reducible exact H) | (have H2_ := (Option.bind_some _ _).symm.trans H; rw [hy227]; with_reducible exact H2_) | (have H2_ := (Option.bind_some _ _).symm.trans H; with_reducible exact H2_) | with_reducible exact H | (rw [hy227]; exact H) | exact H
        have Ny227 := Aside0.mk hy227
        clear hy227
        have c22b0 := eq_true (od_ : 0 ≤ x7_2)
        have c23b0 := eq_true (od_ : x7_2 ≤ (x5_1.length : Int))
        obtain ⟨y230, hy230⟩ : ∃ y_ : List (S72), y_ = (x5_1.take (x7_2 : Int).toNat) := ⟨_, rfl⟩
        replace H : (if y227.length + y230.length < 4398046511104 then ((some (y227 ++ y230 : List (S72))).bind fun y234 => (if y234.length + y224.length < 4398046511104 then (spec_l08Sorted.l0 k2 a0 l1 (y234 ++ y224) (wrap64 (x6_1 + 1))) else (none))) else (none)) = some r := by first | (rw [hy230]; with_reducible exact H) | (have H2_ := (Option.bind_some _ _).symm.trans H; rw [hy230]; with_reducible exact H2_) | (have H2_ := (Option.bind_some _ _).symm.trans H; with_reducible exact H2_) | with_reducible exact H | (rw [hy230]; exact H) | exact H
        have Ny230 := Aside0.mk hy230
        clear hy230
        by_cases c24 : y227.length + y230.length < 4398046511104
        ·rw [if_pos c24] at H
         have LMc24 := Aside0.mk c24
         clear c24
         obtain ⟨y234, hy234⟩ : ∃ y_ : List (S72), y_ = (y227 ++ y230) := ⟨_, rfl⟩
         replace H : (if y234.length + y224.length < 4398046511104 then (spec_l08Sorted.l0 k2 a0 l1 (y234 ++ y224) (wrap64 (x6_1 + 1))) else (none)) = some r := by first | (rw [hy234]; with_reducible exact H) | (have H2_ := (Option.bind_some _ _).symm.trans H; rw [hy234]; with_reducible exact H2_) | (have H2_ := (Option.bind_some _ _).symm.trans H; with_reducible exact H2_) | with_reducible exact H | (rw [hy234]; exact H) | exact H
         have Ny234 := Aside0.mk hy234
         clear hy234
         by_cases c25 : y234.length + y224.length < 4398046511104
         ·rw [if_pos c25] at H
          have LMc25 := Aside0.mk c25
          clear c25
          obtain ⟨y237, hy237⟩ : ∃ y_ : List (S72), y_ = (y234 ++ y224) := ⟨_, rfl⟩
          replace H : (spec_l08Sorted.l0 k2 a0 l1 y237 (wrap64 (x6_1 + 1))) = some r := by first | (rw [hy237]; with_reducible exact H) | (have H2_ := (Option.bind_some _ _).symm.trans H; rw [hy237]; with_reducible exact H2_) | (have H2_ := (Option.bind_some _ _).symm.trans H; with_reducible exact H2_) | with_reducible exact H | (rw [hy237]; exact H) | exact H
          have Ny237 := Aside0.mk hy237
          clear hy237
          have H' := Aside0.mk H
          clear H
          try go_wp2
          replace HO_5 := Aside0.mk (Kd.R_drew HO_5.out)
          replace HB := be_ HB
          have p212 : 0 ≤ ((ji8) : Int) := od_
          have q212 : (ji8) < (x5_1.length : Int) := od_
          obtain ⟨ad212, e212, hx212_0, hx212_1, hx212_2, hx212_3⟩ := at_T72 (Kd.R_reads' HO_5.out).2.2 (ji8) p212 q212
          cases e212
          replace p212 := eq_true p212
          replace q212 := eq_true q212
          have p214 : 0 ≤ (x6_1 : Int) := od_
          have q214 : x6_1 < (l1.length : Int) := od_
          obtain ⟨ad214, e214, hx214_0, hx214_1, hx214_2, hx214_3⟩ := at_T72 HR1.out x6_1 p214 q214
          have hw214_3 := hx214_3
          have hw214_2 := hx214_2
          have hw214_1 := hx214_1
          have hw214_0 := hx214_0
          cases e214
          replace hx214_0 := clTr HB.out hx214_0
          replace hx214_1 := clTr HB.out hx214_1
          replace hx214_2 := clTr HB.out hx214_2
          replace hx214_3 := clTr HB.out hx214_3
          replace p214 := eq_true p214
          replace q214 := eq_true q214
          refine start_ (n := 20) (S := fun w' => w'.cell? (ad212.add (((ji8)).toNat * 4)) = some (.int .i64 ((rd_T72 x5_1 (ji8)).f0.f0)) ∧ w'.cell? ⟨(ad212.add (((ji8)).toNat * 4)).block, (ad212.add (((ji8)).toNat * 4)).off + 1, none⟩ = some (.int .i64 ((rd_T72 x5_1 (ji8)).f0.f1)) ∧ w'.cell? ⟨(ad212.add (((ji8)).toNat * 4)).block, (ad212.add (((ji8)).toNat * 4)).off + 2, none⟩ = some (.int .i64 ((rd_T72 x5_1 (ji8)).f0.f2)) ∧ w'.cell? ⟨(ad212.add (((ji8)).toNat * 4)).block, (ad212.add (((ji8)).toNat * 4)).off + 3, none⟩ = some (.int .i64 ((rd_T72 x5_1 (ji8)).f1)) ∧ w'.cell? (ad214.add ((x6_1).toNat * 4)) = some (.int .i64 ((rd_T72 l1 x6_1).f0.f0)) ∧ w'.cell? ⟨(ad214.add ((x6_1).toNat * 4)).block, (ad214.add ((x6_1).toNat * 4)).off + 1, none⟩ = some (.int .i64 ((rd_T72 l1 x6_1).f0.f1)) ∧ w'.cell? ⟨(ad214.add ((x6_1).toNat * 4)).block, (ad214.add ((x6_1).toNat * 4)).off + 2, none⟩ = some (.int .i64 ((rd_T72 l1 x6_1).f0.f2)) ∧ w'.cell? ⟨(ad214.add ((x6_1).toNat * 4)).block, (ad214.add ((x6_1).toNat * 4)).off + 3, none⟩ = some (.int .i64 ((rd_T72 l1 x6_1).f1))) (ds := []) (bv_ 20 0) (by kernel_rfl) rfl rfl ⟨hx212_0, hx212_1, hx212_2, hx212_3, (clTr HB.out hw214_0 :), (clTr HB.out hw214_1 :), (clTr HB.out hw214_2 :), (clTr HB.out hw214_3 :)⟩ (fun hHeld => ?_); refine with_tabW spec_l08Sorted.tab6 spec_l08Sorted.bits6 (fun HT_ HW_ => ?_)
          generalize wr.drew = w26 at HO_5 HB hx212_0 hx212_1 hx212_2 hx212_3 hx214_0 hx214_1 hx214_2 hx214_3 hHeld ⊢
          refine px_ HT_ 0 18 1 ?_
          refine px_ HT_ 1 19 3 ?_
          refine px_ HT_ 2 20 7 ?_
          refine px_ HT_ 3 21 15 ?_
          refine px_ HT_ 4 22 31 ?_
          refine px_ HT_ 5 23 63 ?_
          refine px_ HT_ 6 24 127 ?_
          refine px_ HT_ 7 25 255 ?_
          refine px_ HT_ 8 26 511 ?_
          refine px_ HT_ 11 29 2559 ?_
          refine px_ HT_ 12 30 6655 ?_
          refine px_ HT_ 13 31 14847 ?_
          refine px_ HT_ 14 32 31231 ?_
          refine px_ HT_ 15 33 63999 ?_
          refine ta_ HT_ HW_ 9 (some 27) (bv_ 20 64511) hHeld ?_ (hy := by rintro w' ⟨s0, s1, s2, s3, s4, s5, s6, s7⟩; go_simp; with_reducible rfl)
          refine ta_ HT_ HW_ 16 (some 34) (bv_ 20 130047) hHeld ?_ (hy := by rintro w' ⟨s0, s1, s2, s3, s4, s5, s6, s7⟩; go_simp; with_reducible rfl)
          refine on_ HT_ 10 (some 28) (bv_ 20 131071) (fun K hK => ?_)
          refine gs_ Try.func67 #[.int .i64 a0, .agg #[.int .i64 ((rd_T72 x5_1 (ji8)).f0.f0), .int .i64 ((rd_T72 x5_1 (ji8)).f0.f1), .int .i64 ((rd_T72 x5_1 (ji8)).f0.f2)]] ?_ (hargs := by (try simp only [List.map_toArray, List.map_cons, List.map_nil]); first | done | (simp only [hji8]; rfl) | rfl | (simp only [List.length_drop, List.length_take]; rfl))
          with_reducible refine (spec_l08Key.calls k2 a0 ((rd_T72 x5_1 (ji8)).f0.f0) ((rd_T72 x5_1 (ji8)).f0.f1) ((rd_T72 x5_1 (ji8)).f0.f2) t213 _ A11.out).mono ?_
          rintro e w27 ⟨rfl, hb⟩
          have HS0_ := (hb.cell (World.block_lt_of_cell? _ _ (hHeld.1))).trans (hHeld.1)
          have HS1_ := (hb.cell (World.block_lt_of_cell? _ _ (hHeld.2.1))).trans (hHeld.2.1)
          have HS2_ := (hb.cell (World.block_lt_of_cell? _ _ (hHeld.2.2.1))).trans (hHeld.2.2.1)
          have HS3_ := (hb.cell (World.block_lt_of_cell? _ _ (hHeld.2.2.2.1))).trans (hHeld.2.2.2.1)
          refine ⟨_, rfl, ?_⟩
          replace HO_5 := rb_ HO_5 hb
          replace HB := bt_ HB hb
          try clear hb
          refine hK.out _ _ ⟨HS0_, HS1_, HS2_, HS3_, (clTr HB.out hw214_0 :), (clTr HB.out hw214_1 :), (clTr HB.out hw214_2 :), (clTr HB.out hw214_3 :)⟩ (fun hHeld => ?_)
          clear hK K
          refine nm_ (some 28) ?_
          refine on_ HT_ 17 (some 35) (bv_ 20 262143) (fun K hK => ?_)
          refine gs_ Try.func67 #[.int .i64 a0, .agg #[.int .i64 ((rd_T72 l1 x6_1).f0.f0), .int .i64 ((rd_T72 l1 x6_1).f0.f1), .int .i64 ((rd_T72 l1 x6_1).f0.f2)]] ?_
          with_reducible refine (spec_l08Key.calls k2 a0 ((rd_T72 l1 x6_1).f0.f0) ((rd_T72 l1 x6_1).f0.f1) ((rd_T72 l1 x6_1).f0.f2) t215 _ A14.out).mono ?_
          rintro e w28 ⟨rfl, hb⟩
          have HS0_ := (hb.cell (World.block_lt_of_cell? _ _ (hHeld.1))).trans (hHeld.1)
          have HS1_ := (hb.cell (World.block_lt_of_cell? _ _ (hHeld.2.1))).trans (hHeld.2.1)
          have HS2_ := (hb.cell (World.block_lt_of_cell? _ _ (hHeld.2.2.1))).trans (hHeld.2.2.1)
          have HS3_ := (hb.cell (World.block_lt_of_cell? _ _ (hHeld.2.2.2.1))).trans (hHeld.2.2.2.1)
          refine ⟨_, rfl, ?_⟩
          replace HO_5 := rb_ HO_5 hb
          replace HB := bt_ HB hb
          try clear hb
          refine hK.out _ _ ⟨HS0_, HS1_, HS2_, HS3_, (clTr HB.out hw214_0 :), (clTr HB.out hw214_1 :), (clTr HB.out hw214_2 :), (clTr HB.out hw214_3 :)⟩ (fun hHeld => ?_)
          clear hK K
          refine nm_ (some 35) ?_
          refine px_ HT_ 18 36 524287 ?_
          refine px_ HT_ 19 37 1048575 ?_
          refine done_ (done_of HT_.out (by kernel_rfl)) ?_
          try go_wp2
          replace HO_5 := Aside0.mk (Kd.R_drew HO_5.out)
          replace HB := be_ HB
          have p216 : 0 ≤ (x6_1 : Int) := od_
          have q216 : x6_1 < (l1.length : Int) := od_
          obtain ⟨ad216, e216, hx216_0, hx216_1, hx216_2, hx216_3⟩ := at_T72 HR1.out x6_1 p216 q216
          have hw216_3 := hx216_3
          have hw216_2 := hx216_2
          have hw216_1 := hx216_1
          have hw216_0 := hx216_0
          obtain rfl : ad214 = ad216 := (by injection e216)
          replace hx216_0 := clTr HB.out hx216_0
          replace hx216_1 := clTr HB.out hx216_1
          replace hx216_2 := clTr HB.out hx216_2
          replace hx216_3 := clTr HB.out hx216_3
          replace p216 := eq_true p216
          replace q216 := eq_true q216
          have q30 : (x7_2 : Int) ≤ ((x5_1.length : Int) : Int) := od_
          obtain ⟨i030, hi030, _, hsz30, _⟩ := info_parts info72
          have hroom30 : x5_1.length ≤ co6 := (Kd.R_reads' HO_5.out).2.1
          have hC30 : Kd.C k72 _ (some ad212) x5_1.length x5_1 := (Kd.R_reads' HO_5.out).2.2
          have q030 : (0 : Int) ≤ (x7_2 : Int) := od_
          have hcut30 := cut_from (P := Try.prog) 32 72 .i64 Try.underlying32 hi030 4 hsz30 (some ad212) x5_1.length co6 x7_2 q030 q30
          have hr30 := Kd.C_drop (m := (x7_2 : Int).toNat) (c := co6) hC30 (by omega) hroom30
          obtain ⟨A30, hA30⟩ : ∃ A1, A1 = (if co6 = (x7_2 : Int).toNat then (some ad212) else ((some ad212) : Option Addr).map (·.add ((x7_2 : Int).toNat * 4))) := ⟨_, rfl⟩
          obtain ⟨c30, hc30⟩ : ∃ c1, c1 = co6 - (x7_2 : Int).toNat := ⟨_, rfl⟩
          have hy30 : y220.length = x5_1.length - (x7_2 : Int).toNat := (by rw [Ny220.out, List.length_drop] <;> omega)
          rw [show (x5_1).drop (x7_2 : Int).toNat = y220 from Ny220.out.symm] at hr30
          replace hr30 : Kd.C k72 _ A30 y220.length y220 := (by rw [hA30]; exact hr30)
          rw [← hy30, ← hA30, ← hc30] at hcut30
          have HR223 := Aside0.mk hr30
          have HC223 := Aside0.mk (show y220.length ≤ c30 from by rw [hy30, hc30]; exact Nat.sub_le_sub_right hroom30 _)
          clear hr30 hC30 hroom30 hi030 hsz30 hc30
          have KY30 := Aside0.mk hy30
          have KA30 := Aside0.mk hA30
          clear hy30 hA30
          have KL30 := Aside0.mk (show (x7_2 : Int).toNat ≤ x5_1.length from by omega)
          replace q30 := eq_true q30
          refine start_ (n := 10) (S := fun w' => w'.cell? (ad214.add ((x6_1).toNat * 4)) = some (.int .i64 ((rd_T72 l1 x6_1).f0.f0)) ∧ w'.cell? ⟨(ad214.add ((x6_1).toNat * 4)).block, (ad214.add ((x6_1).toNat * 4)).off + 1, none⟩ = some (.int .i64 ((rd_T72 l1 x6_1).f0.f1)) ∧ w'.cell? ⟨(ad214.add ((x6_1).toNat * 4)).block, (ad214.add ((x6_1).toNat * 4)).off + 2, none⟩ = some (.int .i64 ((rd_T72 l1 x6_1).f0.f2)) ∧ w'.cell? ⟨(ad214.add ((x6_1).toNat * 4)).block, (ad214.add ((x6_1).toNat * 4)).off + 3, none⟩ = some (.int .i64 ((rd_T72 l1 x6_1).f1))) (ds := []) (bv_ 10 0) (by kernel_rfl) rfl rfl ⟨(clTr HB.out hw216_0 :), (clTr HB.out hw216_1 :), (clTr HB.out hw216_2 :), (clTr HB.out hw216_3 :)⟩ (fun hHeld => ?_); refine with_tabW spec_l08Sorted.tab8 spec_l08Sorted.bits8 (fun HT_ HW_ => ?_)
          generalize w28.drew = w29 at HO_5 HB HR223 hx216_0 hx216_1 hx216_2 hx216_3 hHeld ⊢
          refine px_ HT_ 0 40 1 ?_
          refine px_ HT_ 1 41 3 ?_
          refine px_ HT_ 2 42 7 ?_
          refine px_ HT_ 5 45 39 ?_
          refine px_ HT_ 6 46 103 ?_
          refine px_ HT_ 7 47 231 ?_
          refine ta_ HT_ HW_ 3 (some 43) (bv_ 10 239) hHeld ?_ (hy := by rintro w' ⟨s0, s1, s2, s3⟩; go_simp; with_reducible rfl)
          refine on_ HT_ 4 (some 44) (bv_ 10 255) (fun K hK => ?_)
          refine Kd.R_lit_step k72 _ 72 ?hg (N := 44) ?hd (xs := ([(⟨(⟨(rd_T72 l1 x6_1).f0.f0, (rd_T72 l1 x6_1).f0.f1, (rd_T72 l1 x6_1).f0.f2⟩ : S31), (rd_T72 l1 x6_1).f1⟩ : S72)] : List (S72))) (inner := [.int .i64 ((rd_T72 l1 x6_1).f0.f0), .int .i64 ((rd_T72 l1 x6_1).f0.f1), .int .i64 ((rd_T72 l1 x6_1).f0.f2), .int .i64 ((rd_T72 l1 x6_1).f1)]) (ok := fun _ => True) (okp := fun _ => True) ?hr ?hp (fun _ hk => hk) trivial (Below.refl _ _) (Nat.le_refl _) (by simp) ?_; (case hd => rfl); (case hg => rfl); (case hr => first | (go_simp; done) | (go_simp; rfl)); (case hp => exact (Reps.c4 (show Kd.M k72 _ _ _ (⟨(⟨(rd_T72 l1 x6_1).f0.f0, (rd_T72 l1 x6_1).f0.f1, (rd_T72 l1 x6_1).f0.f2⟩ : S31), (rd_T72 l1 x6_1).f1⟩ : S72) [.int .i64 ((rd_T72 l1 x6_1).f0.f0), .int .i64 ((rd_T72 l1 x6_1).f0.f1), .int .i64 ((rd_T72 l1 x6_1).f0.f2), .int .i64 ((rd_T72 l1 x6_1).f1)] from (k72_mkM _ _ _ (⟨(⟨(rd_T72 l1 x6_1).f0.f0, (rd_T72 l1 x6_1).f0.f1, (rd_T72 l1 x6_1).f0.f2⟩ : S31), (rd_T72 l1 x6_1).f1⟩ : S72) )) (Reps.none _ _)))
          intro v218 w31 ho32 hb hg_ hnew_
          clear hg_ hnew_
          (first | rw [← Ny217.out] at ho32 | (simp only [Int.reduceToNat] at ho32; rw [← Ny217.out] at ho32))
          have HO219 := Aside0.mk (Kd.R_lower (Kd.R_new' ho32 (Kd.R_lt (ra_ HO_5.out))) (below_size (bw_ HB).out))
          replace HO_5 := Aside0.mk (Kd.R_elder' (ra_ HO_5.out) (Kd.R_base ho32) hb)
          replace HR223 := Aside0.mk (Kd.C_below (by repeat (first | (with_reducible exact HR223.out) | (with_reducible refine Kd.C_alloc ?_ _) | (with_reducible refine Kd.C_drewN ?_ _) | (with_reducible refine Kd.C_drew ?_) | exact HR223.out)) hb)
          replace HB := bt_ HB hb
          clear hb ho32
          refine hK.out _ _ ⟨(clTr HB.out hw216_0 :), (clTr HB.out hw216_1 :), (clTr HB.out hw216_2 :), (clTr HB.out hw216_3 :)⟩ (fun hHeld => ?_)
          clear hK K
          refine nm_ (some 44) ?_
          refine on_ HT_ 8 (some 48) (bv_ 10 511) (fun K hK => ?_)
          refine Kd.R_append_rows_step k72 (w0 := w) w.heap.size (by rfl) (.tmp 44) (.tmp 47) 32 72 (.agg #[(.int .i64 0), (.int .i64 0), (.int .i64 0), (.int .i64 0)]) 32 rfl Try.underlying32 info72 rfl (by decide) (by omega) v218 y217 y220 _ _ _ (fun k_ => some k_ ≠ (.slice (some ad212) x5_1.length co6 : Value).ownBlock) (fun _ => False) rfl rfl ?aO ?aR (fun _ _ h => h) (fun _ h => h.elim) ?aF ?aB ?aS ?aL ?_
          (case aR => repeat (first | exact (by repeat (first | (with_reducible exact HR223.out) | (with_reducible refine Kd.C_alloc ?_ _) | (with_reducible refine Kd.C_drewN ?_ _) | (with_reducible refine Kd.C_drew ?_) | exact HR223.out)) | (with_reducible refine Kd.C_alloc ?_ _) | (with_reducible refine Kd.C_drewN ?_ _) | (with_reducible refine Kd.C_drew ?_)))
          (case aB => exact (bw_ HB).out)
          (case aF => exact (fun k_ hk => Kd.fresh' (Kd.R_lt (ra_ HO_5.out)) k_ hk))
          (case aO => exact (by (with_reducible repeat (first | apply Kd.R_alloc | apply Kd.R_drewN | apply Kd.R_drew)); exact Kd.R_mono HO219.out (fun _ hk => hk.2)))
          (case aS => exact (below_size (bw_ HB).out))
          (case aL => have := LMc21.out; omega)
          intro v225 w33 ho hb hg hat
          rw [← Ny224.out] at ho
          have n0_ := Aside0.mk (Kd.R_after (ok := (fun _ => True)) (ra_ HO_5.out) hg hat)
          have n1_ := Aside0.mk (hb)
          have n2_ := Aside0.mk ((show Kd.C k72 w33 A30 y220.length y220 from by rw [Ny220.out, KA30.out]; exact Kd.C_drop (m := (x7_2 : Int).toNat) (c := co6) ((Kd.R_reads' (Kd.R_after (ok := (fun _ => True)) (ra_ HO_5.out) hg hat)).2.2) KL30.out ((Kd.R_reads' (Kd.R_after (ok := (fun _ => True)) (ra_ HO_5.out) hg hat)).2.1)))
          have n3_ := Aside0.mk (ho)
          clear HO_5
          clear HB
          clear HR223
          clear HO219
          have HO_5 := n0_
          have HB := n1_
          have HR223 := n2_
          have HO226 := n3_
          clear n0_ n1_ n2_ n3_
          clear ho hb hg hat
          refine hK.out _ _ ⟨(clTr HB.out hw216_0 :), (clTr HB.out hw216_1 :), (clTr HB.out hw216_2 :), (clTr HB.out hw216_3 :)⟩ (fun hHeld => ?_)
          clear hK K
          refine nm_ (some 48) ?_
          refine px_ HT_ 9 8 1023 ?_
          refine done_ (done_of HT_.out (by kernel_rfl)) ?_
          try go_wp2_with (first | ((refine gd_ 49 ?_); refine Kd.R_lit k72 _ 72 ?hg (N := 49) ?hd (xs := ([] : List (S72))) (inner := []) (ok := fun _ => True) (okp := fun _ => True) ?hr ?hp (fun _ hk => hk) trivial (Below.refl _ _) (Nat.le_refl _) (by simp) ?_; (case hd => rfl); (case hg => rfl); (case hr => first | (go_simp; done) | (go_simp; rfl)); (case hp => exact (Reps.none _ _)); intro v228 w34 ho35 hb hg_ hnew_; clear hg_ hnew_; (first | rw [← Ny227.out] at ho35 | (simp only [Int.reduceToNat] at ho35; rw [← Ny227.out] at ho35)); have HO229 := Aside0.mk (Kd.R_lower (Kd.R_new' (Kd.R_new' ho35 (Kd.R_lt (ra_ HO_5.out))) (Kd.R_lt (ra_ HO226.out))) (below_size (bw_ HB).out)); replace HO_5 := Aside0.mk (Kd.R_elder' (ra_ HO_5.out) (Kd.R_base ho35) hb); replace HO226 := Aside0.mk (Kd.R_elder' (ra_ HO226.out) (Kd.R_base ho35) hb); replace HR223 := Aside0.mk (Kd.C_below (by repeat (first | (with_reducible exact HR223.out) | (with_reducible refine Kd.C_alloc ?_ _) | (with_reducible refine Kd.C_drewN ?_ _) | (with_reducible refine Kd.C_drew ?_) | exact HR223.out)) hb); replace HB := bt_ HB hb; clear hb ho35; have q36 : (x7_2 : Int) ≤ ((x5_1.length : Int) : Int) := od_; obtain ⟨i036, hi036, _, hsz36, _⟩ := info_parts info72; have hroom36 : x5_1.length ≤ co6 := (Kd.R_reads' HO_5.out).2.1; have hC36 : Kd.C k72 _ (some ad212) x5_1.length x5_1 := (Kd.R_reads' HO_5.out).2.2; have hcut36 := cut_to (P := Try.prog) 32 72 .i64 Try.underlying32 hi036 (some ad212) x5_1.length co6 x7_2 od_ q36 hroom36; have hr36 := Kd.C_take (m := (x7_2 : Int).toNat) hC36 (by omega); have hy36 : y230.length = (x7_2 : Int).toNat := (by rw [Ny230.out, List.length_take]; omega); rw [← Ny230.out] at hr36; rw [← hy36] at hcut36; have HR233 := Aside0.mk hr36; have HC233 := Aside0.mk (show y230.length ≤ co6 from by omega); clear hr36 hC36 hroom36 hi036 hsz36; have KY36 := Aside0.mk hy36; clear hy36; have KL36 := Aside0.mk (show (x7_2 : Int).toNat ≤ x5_1.length from by omega); replace q36 := eq_true q36) | ((with_reducible refine gate_builtin (b := .append) (xs := #[.tmp 49, .tmp 52]) rfl ?_); at_builtin; refine Kd.R_append_rows k72 (w0 := w) w.heap.size rfl (.tmp 49) (.tmp 52) 32 72 (.agg #[(.int .i64 0), (.int .i64 0), (.int .i64 0), (.int .i64 0)]) 32 rfl Try.underlying32 info72 rfl (by decide) (by omega) v228 y227 y230 _ _ _ (fun k_ => some k_ ≠ (.slice (some ad212) x5_1.length co6 : Value).ownBlock ∧ some k_ ≠ (v225 : Value).ownBlock) (fun _ => False) rfl rfl ?aO ?aR (fun _ _ h => h) (fun _ h => h.elim) ?aF ?aB ?aS ?aL ?_; (case aR => repeat (first | exact (by repeat (first | (with_reducible exact HR233.out) | (with_reducible refine Kd.C_alloc ?_ _) | (with_reducible refine Kd.C_drewN ?_ _) | (with_reducible refine Kd.C_drew ?_) | exact HR233.out)) | (with_reducible refine Kd.C_alloc ?_ _) | (with_reducible refine Kd.C_drewN ?_ _) | (with_reducible refine Kd.C_drew ?_))); (case aB => exact (bw_ HB).out); (case aF => exact (fun k_ hk => ⟨Kd.fresh' (Kd.R_lt (ra_ HO_5.out)) k_ hk, Kd.fresh' (Kd.R_lt (ra_ HO226.out)) k_ hk⟩)); (case aO => exact (by (with_reducible repeat (first | apply Kd.R_alloc | apply Kd.R_drewN | apply Kd.R_drew)); exact Kd.R_mono HO229.out (fun _ hk => ⟨hk.1.2, hk.2⟩))); (case aS => exact (below_size (bw_ HB).out)); (case aL => have := LMc24.out; omega); intro v235 w37 ho hb hg hat; rw [← Ny234.out] at ho; have n0_ := Aside0.mk (Kd.R_after (ok := (fun k_ => some k_ ≠ (v225 : Value).ownBlock)) (by (with_reducible repeat (first | apply Kd.R_alloc | apply Kd.R_drewN | apply Kd.R_drew)); exact Kd.R_mono HO_5.out (fun _ hk => ⟨hk.1.2, hk.2⟩)) hg hat); have n1_ := Aside0.mk (Kd.R_after (ok := (fun k_ => some k_ ≠ (.slice (some ad212) x5_1.length co6 : Value).ownBlock)) (ra_ HO226.out) hg hat); have n2_ := Aside0.mk (hb); have n3_ := Aside0.mk ((show Kd.C k72 w37 A30 y220.length y220 from by rw [Ny220.out, KA30.out]; exact Kd.C_drop (m := (x7_2 : Int).toNat) (c := co6) ((Kd.R_reads' (Kd.R_after (ok := (fun k_ => some k_ ≠ (v225 : Value).ownBlock)) (by (with_reducible repeat (first | apply Kd.R_alloc | apply Kd.R_drewN | apply Kd.R_drew)); exact Kd.R_mono HO_5.out (fun _ hk => ⟨hk.1.2, hk.2⟩)) hg hat)).2.2) KL30.out ((Kd.R_reads' (Kd.R_after (ok := (fun k_ => some k_ ≠ (v225 : Value).ownBlock)) (by (with_reducible repeat (first | apply Kd.R_alloc | apply Kd.R_drewN | apply Kd.R_drew)); exact Kd.R_mono HO_5.out (fun _ hk => ⟨hk.1.2, hk.2⟩)) hg hat)).2.1))); have n4_ := Aside0.mk ((show Kd.C k72 w37 (some ad212) y230.length y230 from by rw [Ny230.out]; exact Kd.C_take (m := (x7_2 : Int).toNat) ((Kd.R_reads' (Kd.R_after (ok := (fun k_ => some k_ ≠ (v225 : Value).ownBlock)) (by (with_reducible repeat (first | apply Kd.R_alloc | apply Kd.R_drewN | apply Kd.R_drew)); exact Kd.R_mono HO_5.out (fun _ hk => ⟨hk.1.2, hk.2⟩)) hg hat)).2.2) KL36.out)); have n5_ := Aside0.mk (ho); clear HO_5; clear HO226; clear HB; clear HR223; clear HR233; clear HO229; have HO_5 := n0_; have HO226 := n1_; have HB := n2_; have HR223 := n3_; have HR233 := n4_; have HO236 := n5_; clear n0_ n1_ n2_ n3_ n4_ n5_; clear ho hb hg hat; obtain ⟨Ao39, co39, eo39⟩ := Kd.R_slice HO226.out; subst eo39) | ((with_reducible refine gate_builtin (b := .append) (xs := #[.tmp 53, .tmp 54]) rfl ?_); at_builtin; refine Kd.R_append_rows k72 (w0 := w) w.heap.size rfl (.tmp 53) (.tmp 54) 32 72 (.agg #[(.int .i64 0), (.int .i64 0), (.int .i64 0), (.int .i64 0)]) 32 rfl Try.underlying32 info72 rfl (by decide) (by omega) v235 y234 y224 _ _ _ (fun k_ => some k_ ≠ (.slice (some ad212) x5_1.length co6 : Value).ownBlock ∧ some k_ ≠ (.slice Ao39 y224.length co39 : Value).ownBlock) (fun _ => False) rfl rfl ?aO ?aR (fun _ _ h => h) (fun _ h => h.elim) ?aF ?aB ?aS ?aL ?_; (case aR => repeat (first | exact (Kd.R_reads' HO226.out).2.2 | (with_reducible refine Kd.C_alloc ?_ _) | (with_reducible refine Kd.C_drewN ?_ _) | (with_reducible refine Kd.C_drew ?_))); (case aB => exact (bw_ HB).out); (case aF => exact (fun k_ hk => ⟨Kd.fresh' (Kd.R_lt (ra_ HO_5.out)) k_ hk, Kd.fresh' (Kd.R_lt (ra_ HO226.out)) k_ hk⟩)); (case aO => exact (ra_ HO236.out)); (case aS => exact (below_size (bw_ HB).out)); (case aL => have := LMc25.out; omega); intro v238 w38 ho hb hg hat; rw [← Ny237.out] at ho; have n0_ := Aside0.mk (Kd.R_after (ok := (fun k_ => some k_ ≠ (.slice Ao39 y224.length co39 : Value).ownBlock)) (ra_ HO_5.out) hg hat); have n1_ := Aside0.mk (Kd.R_after (ok := (fun k_ => some k_ ≠ (.slice (some ad212) x5_1.length co6 : Value).ownBlock)) (ra_ HO226.out) hg hat); have n2_ := Aside0.mk (hb); have n3_ := Aside0.mk ((show Kd.C k72 w38 A30 y220.length y220 from by rw [Ny220.out, KA30.out]; exact Kd.C_drop (m := (x7_2 : Int).toNat) (c := co6) ((Kd.R_reads' (Kd.R_after (ok := (fun k_ => some k_ ≠ (.slice Ao39 y224.length co39 : Value).ownBlock)) (ra_ HO_5.out) hg hat)).2.2) KL30.out ((Kd.R_reads' (Kd.R_after (ok := (fun k_ => some k_ ≠ (.slice Ao39 y224.length co39 : Value).ownBlock)) (ra_ HO_5.out) hg hat)).2.1))); have n4_ := Aside0.mk ((show Kd.C k72 w38 (some ad212) y230.length y230 from by rw [Ny230.out]; exact Kd.C_take (m := (x7_2 : Int).toNat) ((Kd.R_reads' (Kd.R_after (ok := (fun k_ => some k_ ≠ (.slice Ao39 y224.length co39 : Value).ownBlock)) (ra_ HO_5.out) hg hat)).2.2) KL36.out)); have n5_ := Aside0.mk (ho); clear HO_5; clear HO226; clear HB; clear HR223; clear HR233; clear HO236; have HO_5 := n0_; have HO226 := n1_; have HB := n2_; have HR223 := n3_; have HR233 := n4_; have HO239 := n5_; clear n0_ n1_ n2_ n3_ n4_ n5_; clear ho hb hg hat))
          go_roundg k2
          case measure => have := HK1.out; have := HK2.out; omega
          case rel => exact ⟨(y237), (wrap64 (x6_1 + 1)), en_, H', ⟨by have := HK1.out; have := HK2.out; omega⟩, ⟨by (with_reducible repeat (first | apply Kd.R_alloc | apply Kd.R_drewN | apply Kd.R_drew)); exact Kd.R_mono HO239.out (fun _ hk => trivial)⟩, bw_ HB⟩
         rw [if_neg c25] at H
         exact absurd H (by simp)
        rw [if_neg c24] at H
        exact absurd H (by simp)
       rw [if_neg c21] at H
       exact absurd H (by simp)
      rw [if_neg c20] at H
      exact absurd H (by simp)
     rw [if_neg c19] at H
     exact absurd H (by simp)
    replace H := imn_ H
    obtain ⟨c40b0, H⟩ := H
    replace H := iln_ H
    obtain ⟨c41b0, H⟩ := H
    obtain ⟨y241, hy241⟩ : ∃ y_ : List (S72), y_ = (([(⟨(⟨(rd_T72 l1 x6_1).f0.f0, (rd_T72 l1 x6_1).f0.f1, (rd_T72 l1 x6_1).f0.f2⟩ : S31), (rd_T72 l1 x6_1).f1⟩ : S72)] : List (S72))) := ⟨_, rfl⟩
    replace H : (if 0 ≤ x7_2 then (if x7_2 ≤ (x5_1.length : Int) then ((some (x5_1.drop (x7_2 : Int).toNat : List (S72))).bind fun y244 => (if y241.length + y244.length < 4398046511104 then ((some (y241 ++ y244 : List (S72))).bind fun y248 => ((some (([] : List (S72)) : List (S72))).bind fun y251 => ((some (x5_1.take (x7_2 : Int).toNat : List (S72))).bind fun y254 => (if y251.length + y254.length < 4398046511104 then ((some (y251 ++ y254 : List (S72))).bind fun y258 => (if y258.length + y248.length < 4398046511104 then (spec_l08Sorted.l0 k2 a0 l1 (y258 ++ y248) (wrap64 (x6_1 + 1))) else (none))) else (none))))) else (none))) else (none)) else (none)) = some r := by first | (rw [hy241]; with_reducible exact H) | (have H2_ := (Option.bind_some _ _).symm.trans H; rw [hy241]; with_reducible exact H2_) | (have H2_ := (Option.bind_some _ _).symm.trans H; with_reducible exact H2_) | with_reducible exact H | (rw [hy241]; exact H) | exact H
    have Ny241 := Aside0.mk hy241
    clear hy241
    by_cases c42 : 0 ≤ x7_2
    ·rw [if_pos c42] at H
     have c42b0 := eq_true c42
     have c42b1 : decide (0 ≤ x7_2) = true := decide_eq_true c42
     clear c42
     by_cases c43 : x7_2 ≤ (x5_1.length : Int)
     ·rw [if_pos c43] at H
      have c43b0 := eq_true c43
      have c43b1 : decide (x7_2 ≤ (x5_1.length : Int)) = true := decide_eq_true c43
      clear c43
      obtain ⟨y244, hy244⟩ : ∃ y_ : List (S72), y_ = (x5_1.drop (x7_2 : Int).toNat) := ⟨_, rfl⟩
      replace H : (if y241.length + y244.length < 4398046511104 then ((some (y241 ++ y244 : List (S72))).bind fun y248 => ((some (([] : List (S72)) : List (S72))).bind fun y251 => ((some (x5_1.take (x7_2 : Int).toNat : List (S72))).bind fun y254 => (if y251.length + y254.length < 4398046511104 then ((some (y251 ++ y254 : List (S72))).bind fun y258 => (if y258.length + y248.length < 4398046511104 then (spec_l08Sorted.l0 k2 a0 l1 (y258 ++ y248) (wrap64 (x6_1 + 1))) else (none))) else (none))))) else (none)) = some r := by first | (rw [hy244]; with_reducible exact H) | (have H2_ := (Option.bind_some _ _).symm.trans H; rw [hy244]; with_reducible exact H2_) | (have H2_ := (Option.bind_some _ _).symm.trans H; with_reducible exact H2_) | with_reducible exact H | (rw [hy244]; exact H) | exact H
      have Ny244 := Aside0.mk hy244
      clear hy244
      by_cases c44 : y241.length + y244.length < 4398046511104
      ·rw [if_pos c44] at H
       have LMc44 := Aside0.mk c44
       clear c44
       obtain ⟨y248, hy248⟩ : ∃ y_ : List (S72), y_ = (y241 ++ y244) := ⟨_, rfl⟩
       replace H : ((some (([] : List (S72)) : List (S72))).bind fun y251 => ((some (x5_1.take (x7_2 : Int).toNat : List (S72))).bind fun y254 => (if y251.length + y254.length < 4398046511104 then ((some (y251 ++ y254 : List (S72))).bind fun y258 => (if y258.length + y248.length < 4398046511104 then (spec_l08Sorted.l0 k2 a0 l1 (y258 ++ y248) (wrap64 (x6_1 + 1))) else (none))) else (none)))) = some r := by first | (rw [hy248]; with_reducible exact H) | (have H2_ := (Option.bind_some _ _).symm.trans H; rw [hy248]; with_reducible exact H2_) | (have H2_ := (Option.bind_some _ _).symm.trans H; with_reducible exact H2_) | with_reducible exact H | (rw [hy248]; exact H) | exact H
       have Ny248 := Aside0.mk hy248
       clear hy248
       obtain ⟨y251, hy251⟩ : ∃ y_ : List (S72), y_ = (([] : List (S72))) := ⟨_, rfl⟩
       replace H : ((some (x5_1.take (x7_2 : Int).toNat : List (S72))).bind fun y254 => (if y251.length + y254.length < 4398046511104 then ((some (y251 ++ y254 : List (S72))).bind fun y258 => (if y258.length + y248.length < 4398046511104 then (spec_l08Sorted.l0 k2 a0 l1 (y258 ++ y248) (wrap64 (x6_1 + 1))) else (none))) else (none))) = some r := by first | (rw [hy251]; with_reducible exact H) | (have H2_ := (Option.bind_some _ _).symm.trans H; rw [hy251]; with_reducible exact H2_) | (have H2_ := (Option.bind_some _ _).symm.trans H; with_reducible exact H2_) | with_reducible exact H | (rw [hy251]; exact H) | exact H
       have Ny251 := Aside0.mk hy251
       clear hy251
       have c45b0 := eq_true (od_ : 0 ≤ x7_2)
       have c46b0 := eq_true (od_ : x7_2 ≤ (x5_1.length : Int))
       obtain ⟨y254, hy254⟩ : ∃ y_ : List (S72), y_ = (x5_1.take (x7_2 : Int).toNat) := ⟨_, rfl⟩
       replace H : (if y251.length + y254.length < 4398046511104 then ((some (y251 ++ y254 : List (S72))).bind fun y258 => (if y258.length + y248.length < 4398046511104 then (spec_l08Sorted.l0 k2 a0 l1 (y258 ++ y248) (wrap64 (x6_1 + 1))) else (none))) else (none)) = some r := by first | (rw [hy254]; with_reducible exact H) | (have H2_ := (Option.bind_some _ _).symm.trans H; rw [hy254]; with_reducible exact H2_) | (have H2_ := (Option.bind_some _ _).symm.trans H; with_reducible exact H2_) | with_reducible exact H | (rw [hy254]; exact H) | exact H
       have Ny254 := Aside0.mk hy254
       clear hy254
       by_cases c47 : y251.length + y254.length < 4398046511104
       ·rw [if_pos c47] at H
        have LMc47 := Aside0.mk c47
        clear c47
        obtain ⟨y258, hy258⟩ : ∃ y_ : List (S72), y_ = (y251 ++ y254) := ⟨_, rfl⟩
        replace H : (if y258.length + y248.length < 4398046511104 then (spec_l08Sorted.l0 k2 a0 l1 (y258 ++ y248) (wrap64 (x6_1 + 1))) else (none)) = some r := by first | (rw [hy258]; with_reducible exact H) | (have H2_ := (Option.bind_some _ _).symm.trans H; rw [hy258]; with_reducible exact H2_) | (have H2_ := (Option.bind_some _ _).symm.trans H; with_reducible exact H2_) | with_reducible exact H | (rw [hy258]; exact H) | exact H
        have Ny258 := Aside0.mk hy258
        clear hy258
        by_cases c48 : y258.length + y248.length < 4398046511104
        ·rw [if_pos c48] at H
         have LMc48 := Aside0.mk c48
         clear c48
         obtain ⟨y261, hy261⟩ : ∃ y_ : List (S72), y_ = (y258 ++ y248) := ⟨_, rfl⟩
         replace H : (spec_l08Sorted.l0 k2 a0 l1 y261 (wrap64 (x6_1 + 1))) = some r := by first | (rw [hy261]; with_reducible exact H) | (have H2_ := (Option.bind_some _ _).symm.trans H; rw [hy261]; with_reducible exact H2_) | (have H2_ := (Option.bind_some _ _).symm.trans H; with_reducible exact H2_) | with_reducible exact H | (rw [hy261]; exact H) | exact H
         have Ny261 := Aside0.mk hy261
         clear hy261
         have H' := Aside0.mk H
         clear H
         try go_wp2
         replace HO_5 := Aside0.mk (Kd.R_drew HO_5.out)
         replace HB := be_ HB
         refine start_ (n := 20) (S := fun w' => True) (ds := []) (bv_ 20 0) (by kernel_rfl) rfl rfl trivial (fun hHeld => ?_); refine with_tabW spec_l08Sorted.tab6 spec_l08Sorted.bits6 (fun HT_ HW_ => ?_)
         generalize wr.drew = w49 at HO_5 HB hHeld ⊢
         refine px_ HT_ 0 18 1 ?_
         refine px_ HT_ 1 19 3 ?_
         refine px_ HT_ 2 20 7 ?_
         refine pv_ HT_ 3 (some 21) (bv_ 20 15) ?_
         refine pv_ HT_ 4 (some 22) (bv_ 20 31) ?_
         refine pv_ HT_ 5 (some 23) (bv_ 20 63) ?_
         refine pv_ HT_ 6 (some 24) (bv_ 20 127) ?_
         refine pv_ HT_ 7 (some 25) (bv_ 20 255) ?_
         refine pv_ HT_ 8 (some 26) (bv_ 20 511) ?_
         refine pv_ HT_ 9 (some 27) (bv_ 20 1023) ?_
         refine pv_ HT_ 10 (some 28) (bv_ 20 2047) ?_
         refine pv_ HT_ 11 (some 29) (bv_ 20 4095) ?_
         refine pv_ HT_ 12 (some 30) (bv_ 20 8191) ?_
         refine pv_ HT_ 13 (some 31) (bv_ 20 16383) ?_
         refine pv_ HT_ 14 (some 32) (bv_ 20 32767) ?_
         refine pv_ HT_ 15 (some 33) (bv_ 20 65535) ?_
         refine pv_ HT_ 16 (some 34) (bv_ 20 131071) ?_
         refine pv_ HT_ 17 (some 35) (bv_ 20 262143) ?_
         refine pv_ HT_ 18 (some 36) (bv_ 20 524287) ?_
         refine px_ HT_ 19 37 1048575 ?_
         refine done_ (done_of HT_.out (by kernel_rfl)) ?_
         try go_wp2
         replace HO_5 := Aside0.mk (Kd.R_drew HO_5.out)
         replace HB := be_ HB
         have p240 : 0 ≤ (x6_1 : Int) := od_
         have q240 : x6_1 < (l1.length : Int) := od_
         obtain ⟨ad240, e240, hx240_0, hx240_1, hx240_2, hx240_3⟩ := at_T72 HR1.out x6_1 p240 q240
         have hw240_3 := hx240_3
         have hw240_2 := hx240_2
         have hw240_1 := hx240_1
         have hw240_0 := hx240_0
         cases e240
         replace hx240_0 := clTr HB.out hx240_0
         replace hx240_1 := clTr HB.out hx240_1
         replace hx240_2 := clTr HB.out hx240_2
         replace hx240_3 := clTr HB.out hx240_3
         replace p240 := eq_true p240
         replace q240 := eq_true q240
         have q51 : (x7_2 : Int) ≤ ((x5_1.length : Int) : Int) := od_
         obtain ⟨i051, hi051, _, hsz51, _⟩ := info_parts info72
         have hroom51 : x5_1.length ≤ co6 := (Kd.R_reads' HO_5.out).2.1
         have hC51 : Kd.C k72 _ Ao6 x5_1.length x5_1 := (Kd.R_reads' HO_5.out).2.2
         have q051 : (0 : Int) ≤ (x7_2 : Int) := od_
         have hcut51 := cut_from (P := Try.prog) 32 72 .i64 Try.underlying32 hi051 4 hsz51 Ao6 x5_1.length co6 x7_2 q051 q51
         have hr51 := Kd.C_drop (m := (x7_2 : Int).toNat) (c := co6) hC51 (by omega) hroom51
         obtain ⟨A51, hA51⟩ : ∃ A1, A1 = (if co6 = (x7_2 : Int).toNat then Ao6 else (Ao6 : Option Addr).map (·.add ((x7_2 : Int).toNat * 4))) := ⟨_, rfl⟩
         obtain ⟨c51, hc51⟩ : ∃ c1, c1 = co6 - (x7_2 : Int).toNat := ⟨_, rfl⟩
         have hy51 : y244.length = x5_1.length - (x7_2 : Int).toNat := (by rw [Ny244.out, List.length_drop] <;> omega)
         rw [show (x5_1).drop (x7_2 : Int).toNat = y244 from Ny244.out.symm] at hr51
         replace hr51 : Kd.C k72 _ A51 y244.length y244 := (by rw [hA51]; exact hr51)
         rw [← hy51, ← hA51, ← hc51] at hcut51
         have HR247 := Aside0.mk hr51
         have HC247 := Aside0.mk (show y244.length ≤ c51 from by rw [hy51, hc51]; exact Nat.sub_le_sub_right hroom51 _)
         clear hr51 hC51 hroom51 hi051 hsz51 hc51
         have KY51 := Aside0.mk hy51
         have KA51 := Aside0.mk hA51
         clear hy51 hA51
         have KL51 := Aside0.mk (show (x7_2 : Int).toNat ≤ x5_1.length from by omega)
         replace q51 := eq_true q51
         refine start_ (n := 10) (S := fun w' => w'.cell? (ad240.add ((x6_1).toNat * 4)) = some (.int .i64 ((rd_T72 l1 x6_1).f0.f0)) ∧ w'.cell? ⟨(ad240.add ((x6_1).toNat * 4)).block, (ad240.add ((x6_1).toNat * 4)).off + 1, none⟩ = some (.int .i64 ((rd_T72 l1 x6_1).f0.f1)) ∧ w'.cell? ⟨(ad240.add ((x6_1).toNat * 4)).block, (ad240.add ((x6_1).toNat * 4)).off + 2, none⟩ = some (.int .i64 ((rd_T72 l1 x6_1).f0.f2)) ∧ w'.cell? ⟨(ad240.add ((x6_1).toNat * 4)).block, (ad240.add ((x6_1).toNat * 4)).off + 3, none⟩ = some (.int .i64 ((rd_T72 l1 x6_1).f1))) (ds := []) (bv_ 10 0) (by kernel_rfl) rfl rfl ⟨(clTr HB.out hw240_0 :), (clTr HB.out hw240_1 :), (clTr HB.out hw240_2 :), (clTr HB.out hw240_3 :)⟩ (fun hHeld => ?_); refine with_tabW spec_l08Sorted.tab8 spec_l08Sorted.bits8 (fun HT_ HW_ => ?_)
         generalize w49.drew = w50 at HO_5 HB HR247 hx240_0 hx240_1 hx240_2 hx240_3 hHeld ⊢
         refine px_ HT_ 0 40 1 ?_
         refine px_ HT_ 1 41 3 ?_
         refine px_ HT_ 2 42 7 ?_
         refine px_ HT_ 5 45 39 ?_
         refine px_ HT_ 6 46 103 ?_
         refine px_ HT_ 7 47 231 ?_
         refine ta_ HT_ HW_ 3 (some 43) (bv_ 10 239) hHeld ?_ (hy := by rintro w' ⟨s0, s1, s2, s3⟩; go_simp; with_reducible rfl)
         refine on_ HT_ 4 (some 44) (bv_ 10 255) (fun K hK => ?_)
         refine Kd.R_lit_step k72 _ 72 ?hg (N := 44) ?hd (xs := ([(⟨(⟨(rd_T72 l1 x6_1).f0.f0, (rd_T72 l1 x6_1).f0.f1, (rd_T72 l1 x6_1).f0.f2⟩ : S31), (rd_T72 l1 x6_1).f1⟩ : S72)] : List (S72))) (inner := [.int .i64 ((rd_T72 l1 x6_1).f0.f0), .int .i64 ((rd_T72 l1 x6_1).f0.f1), .int .i64 ((rd_T72 l1 x6_1).f0.f2), .int .i64 ((rd_T72 l1 x6_1).f1)]) (ok := fun _ => True) (okp := fun _ => True) ?hr ?hp (fun _ hk => hk) trivial (Below.refl _ _) (Nat.le_refl _) (by simp) ?_; (case hd => rfl); (case hg => rfl); (case hr => first | (go_simp; done) | (go_simp; rfl)); (case hp => exact (Reps.c4 (show Kd.M k72 _ _ _ (⟨(⟨(rd_T72 l1 x6_1).f0.f0, (rd_T72 l1 x6_1).f0.f1, (rd_T72 l1 x6_1).f0.f2⟩ : S31), (rd_T72 l1 x6_1).f1⟩ : S72) [.int .i64 ((rd_T72 l1 x6_1).f0.f0), .int .i64 ((rd_T72 l1 x6_1).f0.f1), .int .i64 ((rd_T72 l1 x6_1).f0.f2), .int .i64 ((rd_T72 l1 x6_1).f1)] from (k72_mkM _ _ _ (⟨(⟨(rd_T72 l1 x6_1).f0.f0, (rd_T72 l1 x6_1).f0.f1, (rd_T72 l1 x6_1).f0.f2⟩ : S31), (rd_T72 l1 x6_1).f1⟩ : S72) )) (Reps.none _ _)))
         intro v242 w52 ho53 hb hg_ hnew_
         clear hg_ hnew_
         (first | rw [← Ny241.out] at ho53 | (simp only [Int.reduceToNat] at ho53; rw [← Ny241.out] at ho53))
         have HO243 := Aside0.mk (Kd.R_lower (Kd.R_new' ho53 (Kd.R_lt (ra_ HO_5.out))) (below_size (bw_ HB).out))
         replace HO_5 := Aside0.mk (Kd.R_elder' (ra_ HO_5.out) (Kd.R_base ho53) hb)
         replace HR247 := Aside0.mk (Kd.C_below (by repeat (first | (with_reducible exact HR247.out) | (with_reducible refine Kd.C_alloc ?_ _) | (with_reducible refine Kd.C_drewN ?_ _) | (with_reducible refine Kd.C_drew ?_) | exact HR247.out)) hb)
         replace HB := bt_ HB hb
         clear hb ho53
         refine hK.out _ _ ⟨(clTr HB.out hw240_0 :), (clTr HB.out hw240_1 :), (clTr HB.out hw240_2 :), (clTr HB.out hw240_3 :)⟩ (fun hHeld => ?_)
         clear hK K
         refine nm_ (some 44) ?_
         refine on_ HT_ 8 (some 48) (bv_ 10 511) (fun K hK => ?_)
         refine Kd.R_append_rows_step k72 (w0 := w) w.heap.size (by rfl) (.tmp 44) (.tmp 47) 32 72 (.agg #[(.int .i64 0), (.int .i64 0), (.int .i64 0), (.int .i64 0)]) 32 rfl Try.underlying32 info72 rfl (by decide) (by omega) v242 y241 y244 _ _ _ (fun k_ => some k_ ≠ (.slice Ao6 x5_1.length co6 : Value).ownBlock) (fun _ => False) rfl rfl ?aO ?aR (fun _ _ h => h) (fun _ h => h.elim) ?aF ?aB ?aS ?aL ?_
         (case aR => repeat (first | exact (by repeat (first | (with_reducible exact HR247.out) | (with_reducible refine Kd.C_alloc ?_ _) | (with_reducible refine Kd.C_drewN ?_ _) | (with_reducible refine Kd.C_drew ?_) | exact HR247.out)) | (with_reducible refine Kd.C_alloc ?_ _) | (with_reducible refine Kd.C_drewN ?_ _) | (with_reducible refine Kd.C_drew ?_)))
         (case aB => exact (bw_ HB).out)
         (case aF => exact (fun k_ hk => Kd.fresh' (Kd.R_lt (ra_ HO_5.out)) k_ hk))
         (case aO => exact (by (with_reducible repeat (first | apply Kd.R_alloc | apply Kd.R_drewN | apply Kd.R_drew)); exact Kd.R_mono HO243.out (fun _ hk => hk.2)))
         (case aS => exact (below_size (bw_ HB).out))
         (case aL => have := LMc44.out; omega)
         intro v249 w54 ho hb hg hat
         rw [← Ny248.out] at ho
         have n0_ := Aside0.mk (Kd.R_after (ok := (fun _ => True)) (ra_ HO_5.out) hg hat)
         have n1_ := Aside0.mk (hb)
         have n2_ := Aside0.mk ((show Kd.C k72 w54 A51 y244.length y244 from by rw [Ny244.out, KA51.out]; exact Kd.C_drop (m := (x7_2 : Int).toNat) (c := co6) ((Kd.R_reads' (Kd.R_after (ok := (fun _ => True)) (ra_ HO_5.out) hg hat)).2.2) KL51.out ((Kd.R_reads' (Kd.R_after (ok := (fun _ => True)) (ra_ HO_5.out) hg hat)).2.1)))
         have n3_ := Aside0.mk (ho)
         clear HO_5
         clear HB
         clear HR247
         clear HO243
         have HO_5 := n0_
         have HB := n1_
         have HR247 := n2_
         have HO250 := n3_
         clear n0_ n1_ n2_ n3_
         clear ho hb hg hat
         refine hK.out _ _ ⟨(clTr HB.out hw240_0 :), (clTr HB.out hw240_1 :), (clTr HB.out hw240_2 :), (clTr HB.out hw240_3 :)⟩ (fun hHeld => ?_)
         clear hK K
         refine nm_ (some 48) ?_
         refine px_ HT_ 9 8 1023 ?_
         refine done_ (done_of HT_.out (by kernel_rfl)) ?_
         try go_wp2_with (first | ((refine gd_ 49 ?_); refine Kd.R_lit k72 _ 72 ?hg (N := 49) ?hd (xs := ([] : List (S72))) (inner := []) (ok := fun _ => True) (okp := fun _ => True) ?hr ?hp (fun _ hk => hk) trivial (Below.refl _ _) (Nat.le_refl _) (by simp) ?_; (case hd => rfl); (case hg => rfl); (case hr => first | (go_simp; done) | (go_simp; rfl)); (case hp => exact (Reps.none _ _)); intro v252 w55 ho56 hb hg_ hnew_; clear hg_ hnew_; (first | rw [← Ny251.out] at ho56 | (simp only [Int.reduceToNat] at ho56; rw [← Ny251.out] at ho56)); have HO253 := Aside0.mk (Kd.R_lower (Kd.R_new' (Kd.R_new' ho56 (Kd.R_lt (ra_ HO_5.out))) (Kd.R_lt (ra_ HO250.out))) (below_size (bw_ HB).out)); replace HO_5 := Aside0.mk (Kd.R_elder' (ra_ HO_5.out) (Kd.R_base ho56) hb); replace HO250 := Aside0.mk (Kd.R_elder' (ra_ HO250.out) (Kd.R_base ho56) hb); replace HR247 := Aside0.mk (Kd.C_below (by repeat (first | (with_reducible exact HR247.out) | (with_reducible refine Kd.C_alloc ?_ _) | (with_reducible refine Kd.C_drewN ?_ _) | (with_reducible refine Kd.C_drew ?_) | exact HR247.out)) hb); replace HB := bt_ HB hb; clear hb ho56; have q57 : (x7_2 : Int) ≤ ((x5_1.length : Int) : Int) := od_; obtain ⟨i057, hi057, _, hsz57, _⟩ := info_parts info72; have hroom57 : x5_1.length ≤ co6 := (Kd.R_reads' HO_5.out).2.1; have hC57 : Kd.C k72 _ Ao6 x5_1.length x5_1 := (Kd.R_reads' HO_5.out).2.2; have hcut57 := cut_to (P := Try.prog) 32 72 .i64 Try.underlying32 hi057 Ao6 x5_1.length co6 x7_2 od_ q57 hroom57; have hr57 := Kd.C_take (m := (x7_2 : Int).toNat) hC57 (by omega); have hy57 : y254.length = (x7_2 : Int).toNat := (by rw [Ny254.out, List.length_take]; omega); rw [← Ny254.out] at hr57; rw [← hy57] at hcut57; have HR257 := Aside0.mk hr57; have HC257 := Aside0.mk (show y254.length ≤ co6 from by omega); clear hr57 hC57 hroom57 hi057 hsz57; have KY57 := Aside0.mk hy57; clear hy57; have KL57 := Aside0.mk (show (x7_2 : Int).toNat ≤ x5_1.length from by omega); replace q57 := eq_true q57) | ((with_reducible refine gate_builtin (b := .append) (xs := #[.tmp 49, .tmp 52]) rfl ?_); at_builtin; refine Kd.R_append_rows k72 (w0 := w) w.heap.size rfl (.tmp 49) (.tmp 52) 32 72 (.agg #[(.int .i64 0), (.int .i64 0), (.int .i64 0), (.int .i64 0)]) 32 rfl Try.underlying32 info72 rfl (by decide) (by omega) v252 y251 y254 _ _ _ (fun k_ => some k_ ≠ (.slice Ao6 x5_1.length co6 : Value).ownBlock ∧ some k_ ≠ (v249 : Value).ownBlock) (fun _ => False) rfl rfl ?aO ?aR (fun _ _ h => h) (fun _ h => h.elim) ?aF ?aB ?aS ?aL ?_; (case aR => repeat (first | exact (by repeat (first | (with_reducible exact HR257.out) | (with_reducible refine Kd.C_alloc ?_ _) | (with_reducible refine Kd.C_drewN ?_ _) | (with_reducible refine Kd.C_drew ?_) | exact HR257.out)) | (with_reducible refine Kd.C_alloc ?_ _) | (with_reducible refine Kd.C_drewN ?_ _) | (with_reducible refine Kd.C_drew ?_))); (case aB => exact (bw_ HB).out); (case aF => exact (fun k_ hk => ⟨Kd.fresh' (Kd.R_lt (ra_ HO_5.out)) k_ hk, Kd.fresh' (Kd.R_lt (ra_ HO250.out)) k_ hk⟩)); (case aO => exact (by (with_reducible repeat (first | apply Kd.R_alloc | apply Kd.R_drewN | apply Kd.R_drew)); exact Kd.R_mono HO253.out (fun _ hk => ⟨hk.1.2, hk.2⟩))); (case aS => exact (below_size (bw_ HB).out)); (case aL => have := LMc47.out; omega); intro v259 w58 ho hb hg hat; rw [← Ny258.out] at ho; have n0_ := Aside0.mk (Kd.R_after (ok := (fun k_ => some k_ ≠ (v249 : Value).ownBlock)) (by (with_reducible repeat (first | apply Kd.R_alloc | apply Kd.R_drewN | apply Kd.R_drew)); exact Kd.R_mono HO_5.out (fun _ hk => ⟨hk.1.2, hk.2⟩)) hg hat); have n1_ := Aside0.mk (Kd.R_after (ok := (fun k_ => some k_ ≠ (.slice Ao6 x5_1.length co6 : Value).ownBlock)) (ra_ HO250.out) hg hat); have n2_ := Aside0.mk (hb); have n3_ := Aside0.mk ((show Kd.C k72 w58 A51 y244.length y244 from by rw [Ny244.out, KA51.out]; exact Kd.C_drop (m := (x7_2 : Int).toNat) (c := co6) ((Kd.R_reads' (Kd.R_after (ok := (fun k_ => some k_ ≠ (v249 : Value).ownBlock)) (by (with_reducible repeat (first | apply Kd.R_alloc | apply Kd.R_drewN | apply Kd.R_drew)); exact Kd.R_mono HO_5.out (fun _ hk => ⟨hk.1.2, hk.2⟩)) hg hat)).2.2) KL51.out ((Kd.R_reads' (Kd.R_after (ok := (fun k_ => some k_ ≠ (v249 : Value).ownBlock)) (by (with_reducible repeat (first | apply Kd.R_alloc | apply Kd.R_drewN | apply Kd.R_drew)); exact Kd.R_mono HO_5.out (fun _ hk => ⟨hk.1.2, hk.2⟩)) hg hat)).2.1))); have n4_ := Aside0.mk ((show Kd.C k72 w58 Ao6 y254.length y254 from by rw [Ny254.out]; exact Kd.C_take (m := (x7_2 : Int).toNat) ((Kd.R_reads' (Kd.R_after (ok := (fun k_ => some k_ ≠ (v249 : Value).ownBlock)) (by (with_reducible repeat (first | apply Kd.R_alloc | apply Kd.R_drewN | apply Kd.R_drew)); exact Kd.R_mono HO_5.out (fun _ hk => ⟨hk.1.2, hk.2⟩)) hg hat)).2.2) KL57.out)); have n5_ := Aside0.mk (ho); clear HO_5; clear HO250; clear HB; clear HR247; clear HR257; clear HO253; have HO_5 := n0_; have HO250 := n1_; have HB := n2_; have HR247 := n3_; have HR257 := n4_; have HO260 := n5_; clear n0_ n1_ n2_ n3_ n4_ n5_; clear ho hb hg hat; obtain ⟨Ao60, co60, eo60⟩ := Kd.R_slice HO250.out; subst eo60) | ((with_reducible refine gate_builtin (b := .append) (xs := #[.tmp 53, .tmp 54]) rfl ?_); at_builtin; refine Kd.R_append_rows k72 (w0 := w) w.heap.size rfl (.tmp 53) (.tmp 54) 32 72 (.agg #[(.int .i64 0), (.int .i64 0), (.int .i64 0), (.int .i64 0)]) 32 rfl Try.underlying32 info72 rfl (by decide) (by omega) v259 y258 y248 _ _ _ (fun k_ => some k_ ≠ (.slice Ao6 x5_1.length co6 : Value).ownBlock ∧ some k_ ≠ (.slice Ao60 y248.length co60 : Value).ownBlock) (fun _ => False) rfl rfl ?aO ?aR (fun _ _ h => h) (fun _ h => h.elim) ?aF ?aB ?aS ?aL ?_; (case aR => repeat (first | exact (Kd.R_reads' HO250.out).2.2 | (with_reducible refine Kd.C_alloc ?_ _) | (with_reducible refine Kd.C_drewN ?_ _) | (with_reducible refine Kd.C_drew ?_))); (case aB => exact (bw_ HB).out); (case aF => exact (fun k_ hk => ⟨Kd.fresh' (Kd.R_lt (ra_ HO_5.out)) k_ hk, Kd.fresh' (Kd.R_lt (ra_ HO250.out)) k_ hk⟩)); (case aO => exact (ra_ HO260.out)); (case aS => exact (below_size (bw_ HB).out)); (case aL => have := LMc48.out; omega); intro v262 w59 ho hb hg hat; rw [← Ny261.out] at ho; have n0_ := Aside0.mk (Kd.R_after (ok := (fun k_ => some k_ ≠ (.slice Ao60 y248.length co60 : Value).ownBlock)) (ra_ HO_5.out) hg hat); have n1_ := Aside0.mk (Kd.R_after (ok := (fun k_ => some k_ ≠ (.slice Ao6 x5_1.length co6 : Value).ownBlock)) (ra_ HO250.out) hg hat); have n2_ := Aside0.mk (hb); have n3_ := Aside0.mk ((show Kd.C k72 w59 A51 y244.length y244 from by rw [Ny244.out, KA51.out]; exact Kd.C_drop (m := (x7_2 : Int).toNat) (c := co6) ((Kd.R_reads' (Kd.R_after (ok := (fun k_ => some k_ ≠ (.slice Ao60 y248.length co60 : Value).ownBlock)) (ra_ HO_5.out) hg hat)).2.2) KL51.out ((Kd.R_reads' (Kd.R_after (ok := (fun k_ => some k_ ≠ (.slice Ao60 y248.length co60 : Value).ownBlock)) (ra_ HO_5.out) hg hat)).2.1))); have n4_ := Aside0.mk ((show Kd.C k72 w59 Ao6 y254.length y254 from by rw [Ny254.out]; exact Kd.C_take (m := (x7_2 : Int).toNat) ((Kd.R_reads' (Kd.R_after (ok := (fun k_ => some k_ ≠ (.slice Ao60 y248.length co60 : Value).ownBlock)) (ra_ HO_5.out) hg hat)).2.2) KL57.out)); have n5_ := Aside0.mk (ho); clear HO_5; clear HO250; clear HB; clear HR247; clear HR257; clear HO260; have HO_5 := n0_; have HO250 := n1_; have HB := n2_; have HR247 := n3_; have HR257 := n4_; have HO263 := n5_; clear n0_ n1_ n2_ n3_ n4_ n5_; clear ho hb hg hat))
         go_roundg k2
         case measure => have := HK1.out; have := HK2.out; omega
         case rel => exact ⟨(y261), (wrap64 (x6_1 + 1)), en_, H', ⟨by have := HK1.out; have := HK2.out; omega⟩, ⟨by (with_reducible repeat (first | apply Kd.R_alloc | apply Kd.R_drewN | apply Kd.R_drew)); exact Kd.R_mono HO263.out (fun _ hk => trivial)⟩, bw_ HB⟩
        rw [if_neg c48] at H
        exact absurd H (by simp)
       rw [if_neg c47] at H
       exact absurd H (by simp)
      rw [if_neg c44] at H
      exact absurd H (by simp)
     rw [if_neg c43] at H
     exact absurd H (by simp)
    rw [if_neg c42] at H
    exact absurd H (by simp)
  obtain rfl := si_ H
  go_wp2
  go_ret
  exact ⟨_, es_, by (with_reducible repeat (first | apply Kd.R_alloc | apply Kd.R_drewN | apply Kd.R_drew)); exact HO_5.out, (bw_ HB).out⟩
end Go.Proofs.Ytdfcoebadjhjlaa.QG
