import Derived.Test.YtdfcoebadjhjlaaQIx5
import Derived.Test.YtdfcoebadjhjlaaQIx24
import Derived.Test.YtdfcoebadjhjlaaQIx27
import Derived.Test.YtdfcoebadjhjlaaQIx28
import Derived.Test.YtdfcoebadjhjlaaQIx30
import Derived.Test.YtdfcoebadjhjlaaQIx32
namespace Go.Proofs.Ytdfcoebadjhjlaa.QI
open Go.RowKit Go.Proofs.YtdfcoebadjhjlaaW.PrintWords Go.Proofs.YtdfcoebadjhjlaaW.PrintLast Go.Proofs.YtdfcoebadjhjlaaW.PrintMore
attribute [local go_sem] isSome_setCell max2_int min2_int max_two min_two max_three min_three max_four min_four
set_option linter.unusedVariables false
set_option linter.unusedSimpArgs false

attribute [local go_sem high] eqA63
/-! ### spec_MeasureOfFlow: function 26 -/
mutual
def spec_MeasureOfFlow.l0 : Nat → Int → List (S63) → Int → Int → Int → Int → Option (Int × Int × Int × (List (S72)) × Int)
 | 0, _, _, _, _, _, _ => none
 | k + 1, x0, x2, x8, x292000, x292001, x292002 => if x8 < (x2.length : Int) then (if 0 ≤ x8 then ((spec_l01Is.f k x0 ((rd_T63 x2 x8).f0.f0) ((rd_T63 x2 x8).f0.f1) ((rd_T63 x2 x8).f0.f2)).bind fun t298 => (if t298 = true then (spec_MeasureOfFlow.l0 k x0 x2 (wrap64 (x8 + 1)) x292000 x292001 x292002) else (some (0, 0, 0, ([] : List (S72)), 1)))) else (none)) else (if (x2.length : Int) = 0 then (some (0, 0, 0, ([] : List (S72)), 2)) else (spec_MeasureOfFlow.l1 k x0 x2 0 x292000 x292001 x292002 ([] : List (S72))))
def spec_MeasureOfFlow.l1 : Nat → Int → List (S63) → Int → Int → Int → Int → List (S72) → Option (Int × Int × Int × (List (S72)) × Int)
 | 0, _, _, _, _, _, _, _ => none
 | k + 1, x0, x2, x10, x300000, x300001, x300002, x300003 => if x10 < (x2.length : Int) then (spec_MeasureOfFlow.l2 k x0 x2 x10 true 0 x300000 x300001 x300002 x300003) else ((spec_l08Sorted.f k x0 x300003).bind fun t308 => ((spec_l08Is.f k x0 x300000 x300001 x300002 t308).bind fun t311 => (if t311 = true then ((spec_l08Flow.f k x0 x300000 x300001 x300002 t308).bind fun bt312 => (spec_MeasureOfFlow.l3 k x2 bt312.1 bt312.2 ((bt312.1.length : Int) == (x2.length : Int)) 0 x300000 x300001 x300002 t308)) else (some (0, 0, 0, ([] : List (S72)), 5)))))
def spec_MeasureOfFlow.l2 : Nat → Int → List (S63) → Int → Bool → Int → Int → Int → Int → List (S72) → Option (Int × Int × Int × (List (S72)) × Int)
 | 0, _, _, _, _, _, _, _, _, _ => none
 | k + 1, x0, x2, x10, x11, x12, x300000, x300001, x300002, x300003 => if x12 < (x2.length : Int) then (if x11 = true then (if x10 = x12 then (spec_MeasureOfFlow.l2 k x0 x2 x10 true (wrap64 (x12 + 1)) x300000 x300001 x300002 x300003) else (if 0 ≤ x10 then (if x10 < (x2.length : Int) then (if 0 ≤ x12 then ((spec_l01Holds.f k x0 ((rd_T63 x2 x10).f0.f0) ((rd_T63 x2 x10).f0.f1) ((rd_T63 x2 x10).f0.f2) ((rd_T63 x2 x12).f0.f0) ((rd_T63 x2 x12).f0.f1) ((rd_T63 x2 x12).f0.f2)).bind fun t302 => (spec_MeasureOfFlow.l2 k x0 x2 x10 (!t302) (wrap64 (x12 + 1)) x300000 x300001 x300002 x300003)) else (none)) else (none)) else (none))) else (spec_MeasureOfFlow.l2 k x0 x2 x10 false (wrap64 (x12 + 1)) x300000 x300001 x300002 x300003)) else (if x11 = true then (if 0 ≤ x10 then (if x10 < (x2.length : Int) then (if x300003.length < 4398046511104 then (spec_MeasureOfFlow.l1 k x0 x2 (wrap64 (x10 + 1)) x300000 x300001 x300002 (x300003 ++ [(⟨(⟨(rd_T63 x2 x10).f0.f0, (rd_T63 x2 x10).f0.f1, (rd_T63 x2 x10).f0.f2⟩ : S31), (rd_T63 x2 x10).f1⟩ : S72)])) else (none)) else (none)) else (none)) else (spec_MeasureOfFlow.l1 k x0 x2 (wrap64 (x10 + 1)) x300000 x300001 x300002 x300003))
def spec_MeasureOfFlow.j4 : Nat → Int → Bool → Int → Int → Int → List (S72) → Option (Int × Int × Int × (List (S72)) × Int)
 | 0, _, _, _, _, _, _ => none
 | k + 1, x14, x15, x300000, x300001, x300002, x300003 => if x15 = true then (if x14 = 0 then (some (x300000, x300001, x300002, x300003, 0)) else (some (0, 0, 0, ([] : List (S72)), x14))) else (some (0, 0, 0, ([] : List (S72)), 5))
def spec_MeasureOfFlow.l3 : Nat → List (S63) → List (S63) → Int → Bool → Int → Int → Int → Int → List (S72) → Option (Int × Int × Int × (List (S72)) × Int)
 | 0, _, _, _, _, _, _, _, _, _ => none
 | k + 1, x2, x13, x14, x15, x16, x300000, x300001, x300002, x300003 => if x16 < (x13.length : Int) then (if x15 = true then (if 0 ≤ x16 then (if x16 < (x2.length : Int) then (spec_MeasureOfFlow.l3 k x2 x13 x14 ((((rd_T63 x13 x16).f0.f0) == ((rd_T63 x2 x16).f0.f0) && (((rd_T63 x13 x16).f0.f1) == ((rd_T63 x2 x16).f0.f1) && (((rd_T63 x13 x16).f0.f2) == ((rd_T63 x2 x16).f0.f2)))) && (((rd_T63 x13 x16).f1) == ((rd_T63 x2 x16).f1))) (wrap64 (x16 + 1)) x300000 x300001 x300002 x300003) else (none)) else (none)) else (spec_MeasureOfFlow.j4 k x14 x15 x300000 x300001 x300002 x300003)) else (spec_MeasureOfFlow.j4 k x14 x15 x300000 x300001 x300002 x300003)
end
def spec_MeasureOfFlow.f (k : Nat) (a0 a1_0 a1_1 a1_2 : Int) (l2 : List (S63)) : Option (Int × Int × Int × (List (S72)) × Int) := (spec_l01Code.f k a0 (([(⟨a1_0, a1_1, a1_2⟩ : S31)] : List (S31)))).bind fun t296 => (if t296 = 0 then (spec_MeasureOfFlow.l0 k a0 l2 0 a1_0 a1_1 a1_2) else (some (0, 0, 0, ([] : List (S72)), 1)))
def spec_MeasureOfFlow.T18 : Bool × List (List Nat × List Nat) := (true, [([], []), ([0], [0]), ([1], [1]), ([1], [1]), ([2, 3, 1], [1, 2, 3]), ([4, 1, 1], [1, 4]), ([5], [5]), ([5], [5]), ([5], [5]), ([7, 8, 5], [5, 7, 8]), ([9, 5], [5, 9]), ([10, 5], [5, 10]), ([5], [5]), ([5], [5]), ([12, 13, 5], [5, 12, 13]), ([14, 5], [5, 14]), ([15, 5], [5, 15]), ([6, 11, 16, 5, 5], [5, 6, 11, 16]), ([17, 5], [5, 17]), ([5, 18, 1], [1, 5, 18]), ([1, 19], [1, 19]), ([20, 17, 0, 1, 2, 3, 4, 5, 6, 7, 8, 9, 10, 11, 12, 13, 14, 15, 16, 17, 18, 19, 20], [0, 20])])
def spec_MeasureOfFlow.B18 : List Nat := [0, 1, 3, 3, 15, 31, 63, 63, 63, 447, 959, 1983, 63, 63, 12351, 28735, 61503, 131071, 262143, 524287, 1048575, 2097151]
theorem spec_MeasureOfFlow.tab18 : rtab .any (opsOf Try.f26 18) = spec_MeasureOfFlow.T18 := by kernel_rfl
theorem spec_MeasureOfFlow.bits18 : waitsOk spec_MeasureOfFlow.T18.2 spec_MeasureOfFlow.B18 = true := by kernel_rfl
def spec_MeasureOfFlow.T20 : Bool × List (List Nat × List Nat) := (true, [([], []), ([0], [0]), ([], []), ([], []), ([2, 3], [2, 3]), ([4], [4]), ([5], [5]), ([], []), ([], []), ([7, 8], [7, 8]), ([9], [9]), ([10], [10]), ([6, 11], [6, 11]), ([12], [12]), ([1, 13], [1, 13]), ([0, 1, 2, 3, 4, 5, 6, 7, 8, 9, 10, 11, 12, 13, 14], []), ([15, 14, 14, 0, 1, 2, 3, 4, 5, 6, 7, 8, 9, 10, 11, 12, 13, 14], [14, 15])])
def spec_MeasureOfFlow.B20 : List Nat := [0, 1, 0, 0, 12, 28, 60, 0, 0, 384, 896, 1920, 4092, 8188, 16383, 32767, 65535]
theorem spec_MeasureOfFlow.tab20 : rtab .any (opsOf Try.f26 20) = spec_MeasureOfFlow.T20 := by kernel_rfl
theorem spec_MeasureOfFlow.bits20 : waitsOk spec_MeasureOfFlow.T20.2 spec_MeasureOfFlow.B20 = true := by kernel_rfl
def spec_MeasureOfFlow.T29 : Bool × List (List Nat × List Nat) := (true, [([], []), ([], []), ([0, 1], [0, 1]), ([2], [2]), ([], []), ([], []), ([4, 5], [4, 5]), ([6], [6]), ([3, 7], [3, 7]), ([8, 0, 1, 2, 3, 4, 5, 6, 7, 8], [8])])
def spec_MeasureOfFlow.B29 : List Nat := [0, 0, 3, 7, 0, 0, 48, 112, 255, 511]
theorem spec_MeasureOfFlow.tab29 : rtab .any (opsOf Try.f26 29) = spec_MeasureOfFlow.T29 := by kernel_rfl
theorem spec_MeasureOfFlow.bits29 : waitsOk spec_MeasureOfFlow.T29.2 spec_MeasureOfFlow.B29 = true := by kernel_rfl
set_option maxHeartbeats 8000000 in
set_option maxRecDepth 100000 in
theorem spec_MeasureOfFlow.calls (k : Nat) (a0 a1_0 a1_1 a1_2 : Int) (A2 : Option Addr) (c2 : Nat) (l2 : List (S63)) (r1 r2 r3 : Int) (r4 : List (S72)) (r5 : Int) (w : World) (hr2 : Kd.C k63 w A2 l2.length l2) (hc2 : l2.length ≤ c2) (h : spec_MeasureOfFlow.f k a0 a1_0 a1_1 a1_2 l2 = some (r1, r2, r3, r4, r5)) :
  Calls Try.prog 26 #[.int .i64 a0, .agg #[.int .i64 a1_0, .int .i64 a1_1, .int .i64 a1_2], .slice A2 l2.length c2] w fun e w' => ∃ v3_ : Value, e = .returned (.tuple #[.agg #[.int .i64 r1, .int .i64 r2, .int .i64 r3, v3_], .int .i64 r5]) ∧ Kd.R k72 72 w' w.heap.size (fun _ => True) v3_ r4 ∧ Below w.heap.size w w' := by
 have hu31 := Try.underlying31
 have hu34 := Try.underlying34
 have hu63 := Try.underlying63
 have hu72 := Try.underlying72
 have HR2 := Aside0.mk hr2
 have HC2 := Aside0.mk hc2
 clear hr2 hc2
 have HB := Aside0.mk (Below.refl w.heap.size w)
 unfold spec_MeasureOfFlow.f at h
 have H := h
 clear h
 obtain ⟨y293, hy293⟩ : ∃ y_ : List (S31), y_ = (([(⟨a1_0, a1_1, a1_2⟩ : S31)] : List (S31))) := ⟨_, rfl⟩
 replace H : ((spec_l01Code.f k a0 y293).bind fun t296 => (if t296 = 0 then (spec_MeasureOfFlow.l0 k a0 l2 0 a1_0 a1_1 a1_2) else (some (0, 0, 0, ([] : List (S72)), 1)))) = some (r1, r2, r3, r4, r5) := by first | (rw [hy293]; with_reducible exact H) | (have H2_ := (Option.bind_some _ _).symm.trans H; rw [hy293]; with_reducible exact H2_) | (have H2_ := (Option.bind_some _ _).symm.trans H; with_reducible exact H2_) | with_reducible exact H | (rw [hy293]; exact H) | exact H
 have Ny293 := Aside0.mk hy293
 clear hy293
 replace H := oc_ H
 obtain ⟨t296, A4, H⟩ := H
 replace H := ie_ H
 rcases H with ⟨c5b0, c5b1, H⟩ | ⟨c5, c5b0, c5b1, H⟩
 ·have H' := Aside0.mk H
  clear H
  go_enter Try.func26, Try.ntmps26
  go_wp2_with (first | ((refine gd_ 4 ?_); refine by_ 4 #[.int .i64 a1_0, .int .i64 a1_1, .int .i64 a1_2] 31 HB ?_; intro gb291 hg w6 BK291 hb GW291 HB_; replace HB := HB_; clear hb hg) | ((refine gd_ 6 ?_); refine by_ 6 #[.int .i64 0, .int .i64 0, .int .i64 0, .slice none 0 0] 34 HB ?_; intro gb292 hg w7 BK292 hb GW292 HB_; have NB291_292 := bm_ BK291 hg; have NB292_291 := bn_ BK291 hg; replace BK291 := bb_ BK291 hb; replace HB := HB_; clear hb hg; have hnb8 := NB291_292.out; have hnc8 := NB292_291.out; obtain ⟨hcz9_0, hcz9_1, hcz9_2, hfz9_0, hfz9_1, hfz9_2⟩ := ch3_ BK291) | ((refine gd_ 19 ?_); refine Kd.R_lit k31 _ 31 ?hg (N := 19) ?hd (xs := ([(⟨a1_0, a1_1, a1_2⟩ : S31)] : List (S31))) (inner := [.int .i64 a1_0, .int .i64 a1_1, .int .i64 a1_2]) (ok := fun _ => True) (okp := fun _ => True) ?hr ?hp (fun _ hk => hk) trivial (Below.refl _ _) (Nat.le_refl _) (by simp) ?_; (case hd => rfl); (case hg => rfl); (case hr => first | (go_simp; done) | (go_simp; rfl)); (case hp => exact (Reps.c3 (show Kd.M k31 _ _ _ (⟨a1_0, a1_1, a1_2⟩ : S31) [.int .i64 a1_0, .int .i64 a1_1, .int .i64 a1_2] from (k31_mkM _ _ _ (⟨a1_0, a1_1, a1_2⟩ : S31) )) (Reps.none _ _))); intro v294 w10 ho11 hb hg_ hnew_; clear hg_ hnew_; (first | rw [← Ny293.out] at ho11 | (simp only [Int.reduceToNat] at ho11; rw [← Ny293.out] at ho11)); have HO295 := Aside0.mk (Kd.R_lower (Kd.R_newB ho11 (g := gb291) (o := .cells #[.int .i64 a1_0, .int .i64 a1_1, .int .i64 a1_2] 31 (0, 0)) (bl_ BK291).out) (below_size (bw_ HB).out)); replace BK291 := bb_ BK291 hb; replace BK292 := bb_ BK292 hb; replace HB := bt_ HB hb; clear hb ho11; obtain ⟨Ao12, co12, eo12⟩ := Kd.R_slice HO295.out; subst eo12) | ((refine gc_ 59 ?_); refine ge_ 20 Try.func59 #[.int .i64 a0, .slice Ao12 y293.length co12] ?_; (with_reducible refine (spec_l01Code.calls k a0 _ _ y293 t296 _ ?side1 ?side2 A4.out).mono ?_); (case side1 => exact ca_ (Kd.R_reads' HO295.out).2.2); (case side2 => exact (Kd.R_reads' HO295.out).2.1); rintro e w13 ⟨rfl, hb⟩; refine ⟨_, rfl, ?_⟩; replace HO295 := rb_ HO295 hb; replace BK291 := bb_ BK291 hb; replace BK292 := bb_ BK292 hb; replace HB := bt_ HB hb; (try clear hb)))
  go_loopg [8] k (fun kq v8 w' => ∃ (x8_1 : Int) (x293000_1 : Int) (x293001_1 : Int) (x293002_1 : Int), v8 = .int .i64 x8_1 ∧ Aside0 (spec_MeasureOfFlow.l0 kq a0 l2 x8_1 a1_0 a1_1 a1_2 = some (r1, r2, r3, r4, r5)) ∧ Aside0 (kq ≤ k) ∧ Aside0 (w'.heap[gb291]? = some (.cells #[.int .i64 a1_0, .int .i64 a1_1, .int .i64 a1_2] 31 (0, 0))) ∧ Aside0 (w'.heap[gb292]? = some (.cells #[.int .i64 x293000_1, .int .i64 x293001_1, .int .i64 x293002_1, (.slice none 0 0)] 34 (0, 0))) ∧ Aside0 (Below w.heap.size w w'))
  case atStart => exact ⟨(0), (0), (0), (0), en_, H', ⟨Nat.le_refl _⟩, bl_ BK291, bl_ BK292, bw_ HB⟩
  clear H'
  try clear c2
  try clear c3
  try clear c5
  try clear c5b0
  try clear c5b1
  try clear hcz9_0 hcz9_1 hcz9_2
  try clear hfz9_0 hfz9_1 hfz9_2
  obtain ⟨x8_1, x293000_1, x293001_1, x293002_1, rfl, HA, HK1, BK291, BK292, HB⟩ := hrel
  cases gk with
  | zero => exact absurd HA.out (by simp [spec_MeasureOfFlow.l0])
  | succ k1 =>
   have H := HA.out
   clear HA
   simp only [spec_MeasureOfFlow.l0] at H
   replace H := il_ H
   rcases H with ⟨c14b0, H⟩ | ⟨c14b0, H⟩
   ·replace H := imn_ H
    obtain ⟨c15b0, H⟩ := H
    replace H := oc_ H
    obtain ⟨t298, A16, H⟩ := H
    replace H := ib_ H
    rcases H with ⟨rfl, H⟩ | ⟨rfl, H⟩
    ·have H' := Aside0.mk H
     clear H
     have p297 : 0 ≤ (x8_1 : Int) := od_
     have q297 : x8_1 < (l2.length : Int) := od_
     obtain ⟨ad297, e297, hx297_0, hx297_1, hx297_2, hx297_3⟩ := at_T63 HR2.out x8_1 p297 q297
     cases e297
     replace hx297_0 := clTr HB.out hx297_0
     replace hx297_1 := clTr HB.out hx297_1
     replace hx297_2 := clTr HB.out hx297_2
     replace hx297_3 := clTr HB.out hx297_3
     replace p297 := eq_true p297
     replace q297 := eq_true q297
     go_wp2_with (first | ((refine gc_ 60 ?_); refine ge_ 35 Try.func60 #[.int .i64 a0, .agg #[.int .i64 ((rd_T63 l2 x8_1).f0.f0), .int .i64 ((rd_T63 l2 x8_1).f0.f1), .int .i64 ((rd_T63 l2 x8_1).f0.f2)]] ?_; (with_reducible refine (spec_l01Is.calls k1 a0 ((rd_T63 l2 x8_1).f0.f0) ((rd_T63 l2 x8_1).f0.f1) ((rd_T63 l2 x8_1).f0.f2) true _ A16.out).mono ?_); rintro e w18 ⟨rfl, hb⟩; refine ⟨_, rfl, ?_⟩; replace BK291 := bb_ BK291 hb; replace BK292 := bb_ BK292 hb; replace HB := bt_ HB hb; (try clear hb)))
     go_roundg k1
     case measure => have := HK1.out; omega
     case rel => exact ⟨(wrap64 (x8_1 + 1)), (x293000_1), (x293001_1), (x293002_1), en_, H', ⟨by have := HK1.out; omega⟩, bl_ BK291, bl_ BK292, bw_ HB⟩
    simp only [Option.some.injEq, Prod.mk.injEq] at H
    obtain ⟨rfl, rfl, rfl, rfl, rfl⟩ := H
    have p297 : 0 ≤ (x8_1 : Int) := od_
    have q297 : x8_1 < (l2.length : Int) := od_
    obtain ⟨ad297, e297, hx297_0, hx297_1, hx297_2, hx297_3⟩ := at_T63 HR2.out x8_1 p297 q297
    cases e297
    replace hx297_0 := clTr HB.out hx297_0
    replace hx297_1 := clTr HB.out hx297_1
    replace hx297_2 := clTr HB.out hx297_2
    replace hx297_3 := clTr HB.out hx297_3
    replace p297 := eq_true p297
    replace q297 := eq_true q297
    go_wp2_with (first | ((refine gc_ 60 ?_); refine ge_ 35 Try.func60 #[.int .i64 a0, .agg #[.int .i64 ((rd_T63 l2 x8_1).f0.f0), .int .i64 ((rd_T63 l2 x8_1).f0.f1), .int .i64 ((rd_T63 l2 x8_1).f0.f2)]] ?_; (with_reducible refine (spec_l01Is.calls k1 a0 ((rd_T63 l2 x8_1).f0.f0) ((rd_T63 l2 x8_1).f0.f1) ((rd_T63 l2 x8_1).f0.f2) false _ A16.out).mono ?_); rintro e w19 ⟨rfl, hb⟩; refine ⟨_, rfl, ?_⟩; replace BK291 := bb_ BK291 hb; replace BK292 := bb_ BK292 hb; replace HB := bt_ HB hb; (try clear hb); have hnb20 := NB292_291.out; have hnc20 := NB291_292.out; obtain ⟨hcz21_0, hcz21_1, hcz21_2, hcz21_3, hfz21_0, hfz21_1, hfz21_2, hfz21_3⟩ := ch4_ BK292))
    refine bodyPost_ret (results_ct rfl _ _ gb292 34 #[.int .i64 0, .int .i64 0, .int .i64 0, .slice none 0 0] (0, 0) _ rfl (bp_ BK292).out Try.underlying34 rfl (by kernel_rfl)) rfl ?_
    exact ⟨_, es_, by first | exact Kd.R_nil _ _ _ _ _ | exact Kd.N_nil _ _ _ _ _ | exact Kd.V_nil _ _ _ _ _ | exact Kd.Q_nil _ _ _ _ _ | exact Kd.S_nil _ _ _ _ _, (bw_ HB).out⟩
   replace H := ie_ H
   rcases H with ⟨c22b0, c22b1, H⟩ | ⟨c22, c22b0, c22b1, H⟩
   ·simp only [Option.some.injEq, Prod.mk.injEq] at H
    obtain ⟨rfl, rfl, rfl, rfl, rfl⟩ := H
    have hnb23 := NB292_291.out
    have hnc23 := NB291_292.out
    obtain ⟨hcz24_0, hcz24_1, hcz24_2, hcz24_3, hfz24_0, hfz24_1, hfz24_2, hfz24_3⟩ := ch4_ BK292
    go_wp2
    refine bodyPost_ret (results_ct rfl _ _ gb292 34 #[.int .i64 0, .int .i64 0, .int .i64 0, .slice none 0 0] (0, 0) _ rfl (bp_ BK292).out Try.underlying34 rfl (by kernel_rfl)) rfl ?_
    exact ⟨_, es_, by first | exact Kd.R_nil _ _ _ _ _ | exact Kd.N_nil _ _ _ _ _ | exact Kd.V_nil _ _ _ _ _ | exact Kd.Q_nil _ _ _ _ _ | exact Kd.S_nil _ _ _ _ _, (bw_ HB).out⟩
   have c22b2 : ¬ (l2 = []) := fun h_ => c22 (by rw [h_]; rfl)
   have H' := Aside0.mk H
   clear H
   have hnb25 := NB291_292.out
   have hnc25 := NB292_291.out
   obtain ⟨hcz26_0, hcz26_1, hcz26_2, hfz26_0, hfz26_1, hfz26_2⟩ := ch3_ BK291
   go_wp2_with (first | ((refine gd_ 9 ?_); refine by_ 9 #[.int .i64 0, .int .i64 0, .int .i64 0, .slice none 0 0] 34 HB ?_; intro gb299 hg w27 BK299 hb GW299 HB_; have NB291_299 := bm_ BK291 hg; have NB299_291 := bn_ BK291 hg; have NB292_299 := bm_ BK292 hg; have NB299_292 := bn_ BK292 hg; replace BK291 := bb_ BK291 hb; replace BK292 := bb_ BK292 hb; replace HB := HB_; clear hb hg; have hnb28 := NB299_291.out; have hnc28 := NB291_299.out; have hnb29 := NB299_292.out; have hnc29 := NB292_299.out; obtain ⟨hcz30_0, hcz30_1, hcz30_2, hcz30_3, hfz30_0, hfz30_1, hfz30_2, hfz30_3⟩ := ch4_ BK299))
   go_loopg [10] k1 (fun kq v10 w' => ∃ (x10_2 : Int) (x300003_2 : List (S72)) (u300003 : Value), v10 = .int .i64 x10_2 ∧ Aside0 (spec_MeasureOfFlow.l1 kq a0 l2 x10_2 a1_0 a1_1 a1_2 x300003_2 = some (r1, r2, r3, r4, r5)) ∧ Aside0 (kq ≤ k1) ∧ Aside0 (Kd.R k72 72 w' w.heap.size (fun _ => True) u300003 x300003_2) ∧ Aside0 (w'.heap[gb291]? = some (.cells #[.int .i64 a1_0, .int .i64 a1_1, .int .i64 a1_2] 31 (0, 0))) ∧ Aside0 (w'.heap[gb292]? = some (.cells #[.int .i64 x293000_1, .int .i64 x293001_1, .int .i64 x293002_1, (.slice none 0 0)] 34 (0, 0))) ∧ Aside0 (w'.heap[gb299]? = some (.cells #[.int .i64 a1_0, .int .i64 a1_1, .int .i64 a1_2, u300003] 34 (0, 0))) ∧ Aside0 (Below w.heap.size w w'))
   case atStart => exact ⟨(0), (([] : List (S72))), (.slice none 0 0), en_, H', ⟨Nat.le_refl _⟩, ⟨by first | exact Kd.R_nil _ _ _ _ _ | exact Kd.N_nil _ _ _ _ _ | exact Kd.V_nil _ _ _ _ _ | exact Kd.Q_nil _ _ _ _ _ | exact Kd.S_nil _ _ _ _ _⟩, fl_ BK291 NB291_299, fl_ BK292 NB292_299, bp_ BK299, bw_ HB⟩
   clear H'
   try clear c2
   try clear c3
   try clear c5
   try clear c5b0
   try clear c5b1
   try clear c14b0
   try clear c15b0
   try clear c22
   try clear c22b0
   try clear c22b1
   try clear c22b2
   try clear hcz21_0 hcz21_1 hcz21_2 hcz21_3
   try clear hcz24_0 hcz24_1 hcz24_2 hcz24_3
   try clear hcz26_0 hcz26_1 hcz26_2
   try clear hcz30_0 hcz30_1 hcz30_2 hcz30_3
   try clear hcz9_0 hcz9_1 hcz9_2
   try clear hfz21_0 hfz21_1 hfz21_2 hfz21_3
   try clear hfz24_0 hfz24_1 hfz24_2 hfz24_3
   try clear hfz26_0 hfz26_1 hfz26_2
   try clear hfz30_0 hfz30_1 hfz30_2 hfz30_3
   try clear hfz9_0 hfz9_1 hfz9_2
   try clear hx297_0
   try clear hx297_1
   try clear hx297_2
   try clear hx297_3
   try clear p297
   try clear q297
   obtain ⟨x10_2, x300003_2, u300003, rfl, HA, HK2, HO_300003, BK291, BK292, BK299, HB⟩ := hrel
   cases gk with
   | zero => exact absurd HA.out (by simp [spec_MeasureOfFlow.l1])
   | succ k2 =>
    have H := HA.out
    clear HA
    simp only [spec_MeasureOfFlow.l1] at H
    replace H := il_ H
    rcases H with ⟨c31b0, H⟩ | ⟨c31b0, H⟩
    ·have H' := Aside0.mk H
     clear H
     go_wp2
     go_loopg [11, 12] k2 (fun kq v11 v12 w' => ∃ (x11_3 : Bool) (x12_3 : Int), v11 = .bool x11_3 ∧ v12 = .int .i64 x12_3 ∧ Aside0 (spec_MeasureOfFlow.l2 kq a0 l2 x10_2 x11_3 x12_3 a1_0 a1_1 a1_2 x300003_2 = some (r1, r2, r3, r4, r5)) ∧ Aside0 (kq ≤ k2) ∧ Aside0 (Kd.R k72 72 w' w.heap.size (fun _ => True) u300003 x300003_2) ∧ Aside0 (w'.heap[gb291]? = some (.cells #[.int .i64 a1_0, .int .i64 a1_1, .int .i64 a1_2] 31 (0, 0))) ∧ Aside0 (w'.heap[gb292]? = some (.cells #[.int .i64 x293000_1, .int .i64 x293001_1, .int .i64 x293002_1, (.slice none 0 0)] 34 (0, 0))) ∧ Aside0 (w'.heap[gb299]? = some (.cells #[.int .i64 a1_0, .int .i64 a1_1, .int .i64 a1_2, u300003] 34 (0, 0))) ∧ Aside0 (Below w.heap.size w w'))
     case atStart => exact ⟨(true), (0), en_, en_, H', ⟨Nat.le_refl _⟩, ⟨by (with_reducible repeat (first | apply Kd.R_alloc | apply Kd.R_drewN | apply Kd.R_drew)); exact HO_300003.out⟩, bl_ BK291, bl_ BK292, bl_ BK299, bw_ HB⟩
     clear H'
     try clear c2
     try clear c3
     try clear c5
     try clear c5b0
     try clear c5b1
     try clear c14b0
     try clear c15b0
     try clear c22
     try clear c22b0
     try clear c22b1
     try clear c22b2
     try clear c31b0
     try clear hcz21_0 hcz21_1 hcz21_2 hcz21_3
     try clear hcz24_0 hcz24_1 hcz24_2 hcz24_3
     try clear hcz26_0 hcz26_1 hcz26_2
     try clear hcz30_0 hcz30_1 hcz30_2 hcz30_3
     try clear hcz9_0 hcz9_1 hcz9_2
     try clear hfz21_0 hfz21_1 hfz21_2 hfz21_3
     try clear hfz24_0 hfz24_1 hfz24_2 hfz24_3
     try clear hfz26_0 hfz26_1 hfz26_2
     try clear hfz30_0 hfz30_1 hfz30_2 hfz30_3
     try clear hfz9_0 hfz9_1 hfz9_2
     try clear hx297_0
     try clear hx297_1
     try clear hx297_2
     try clear hx297_3
     try clear p297
     try clear q297
     obtain ⟨x11_3, x12_3, rfl, rfl, HA, HK3, HO_300003, BK291, BK292, BK299, HB⟩ := hrel
     cases gk with
     | zero => exact absurd HA.out (by simp [spec_MeasureOfFlow.l2])
     | succ k3 =>
      have H := HA.out
      clear HA
      simp only [spec_MeasureOfFlow.l2] at H
      replace H := il_ H
      rcases H with ⟨c32b0, H⟩ | ⟨c32b0, H⟩
      ·replace H := ib_ H
       rcases H with ⟨rfl, H⟩ | ⟨rfl, H⟩
       ·replace H := ie_ H
        rcases H with ⟨c34b0, c34b1, H⟩ | ⟨c34, c34b0, c34b1, H⟩
        ·have H' := Aside0.mk H
         clear H
         try go_wp2
         replace HO_300003 := Aside0.mk (Kd.R_drew HO_300003.out)
         replace BK291 := bd_ BK291
         replace BK292 := bd_ BK292
         replace BK299 := bd_ BK299
         replace HB := be_ HB
         refine start_ (n := 22) (S := fun w' => True) (ds := []) (bv_ 22 0) (by kernel_rfl) rfl rfl trivial (fun hHeld => ?_); refine with_tabW spec_MeasureOfFlow.tab18 spec_MeasureOfFlow.bits18 (fun HT_ HW_ => ?_)
         generalize wr.drew = w35 at HO_300003 BK291 BK292 BK299 HB hHeld ⊢
         refine px_ HT_ 0 56 1 ?_
         refine px_ HT_ 1 57 3 ?_
         refine px_ HT_ 2 58 7 ?_
         refine px_ HT_ 3 59 15 ?_
         refine px_ HT_ 4 60 31 ?_
         refine px_ HT_ 5 61 63 ?_
         refine pv_ HT_ 6 (some 62) (bv_ 22 127) ?_
         refine pv_ HT_ 7 (some 63) (bv_ 22 255) ?_
         refine pv_ HT_ 8 (some 64) (bv_ 22 511) ?_
         refine pv_ HT_ 9 (some 65) (bv_ 22 1023) ?_
         refine pv_ HT_ 10 (some 66) (bv_ 22 2047) ?_
         refine pv_ HT_ 11 (some 67) (bv_ 22 4095) ?_
         refine pv_ HT_ 12 (some 68) (bv_ 22 8191) ?_
         refine pv_ HT_ 13 (some 69) (bv_ 22 16383) ?_
         refine pv_ HT_ 14 (some 70) (bv_ 22 32767) ?_
         refine pv_ HT_ 15 (some 71) (bv_ 22 65535) ?_
         refine pv_ HT_ 16 (some 72) (bv_ 22 131071) ?_
         refine pv_ HT_ 17 (some 73) (bv_ 22 262143) ?_
         refine pv_ HT_ 18 (some 74) (bv_ 22 524287) ?_
         refine px_ HT_ 19 75 1048575 ?_
         refine px_ HT_ 20 76 2097151 ?_
         refine px_ HT_ 21 11 4194303 ?_
         refine done_ (done_of HT_.out (by kernel_rfl)) ?_
         try go_wp2
         go_roundg k3
         case measure => have := HK1.out; have := HK2.out; have := HK3.out; omega
         case rel => exact ⟨(true), (wrap64 (x12_3 + 1)), en_, en_, H', ⟨by have := HK1.out; have := HK2.out; have := HK3.out; omega⟩, ⟨by (with_reducible repeat (first | apply Kd.R_alloc | apply Kd.R_drewN | apply Kd.R_drew)); exact HO_300003.out⟩, bl_ BK291, bl_ BK292, bl_ BK299, bw_ HB⟩
        replace H := imn_ H
        obtain ⟨c36b0, H⟩ := H
        replace H := iln_ H
        obtain ⟨c37b0, H⟩ := H
        replace H := imn_ H
        obtain ⟨c38b0, H⟩ := H
        replace H := oc_ H
        obtain ⟨t302, A39, H⟩ := H
        have H' := Aside0.mk H
        clear H
        try go_wp2
        replace HO_300003 := Aside0.mk (Kd.R_drew HO_300003.out)
        replace BK291 := bd_ BK291
        replace BK292 := bd_ BK292
        replace BK299 := bd_ BK299
        replace HB := be_ HB
        have p300 : 0 ≤ (x10_2 : Int) := od_
        have q300 : x10_2 < (l2.length : Int) := od_
        obtain ⟨ad300, e300, hx300_0, hx300_1, hx300_2, hx300_3⟩ := at_T63 HR2.out x10_2 p300 q300
        have hw300_3 := hx300_3
        have hw300_2 := hx300_2
        have hw300_1 := hx300_1
        have hw300_0 := hx300_0
        cases e300
        replace hx300_0 := clTr HB.out hx300_0
        replace hx300_1 := clTr HB.out hx300_1
        replace hx300_2 := clTr HB.out hx300_2
        replace hx300_3 := clTr HB.out hx300_3
        replace p300 := eq_true p300
        replace q300 := eq_true q300
        have p301 : 0 ≤ (x12_3 : Int) := od_
        have q301 : x12_3 < (l2.length : Int) := od_
        obtain ⟨ad301, e301, hx301_0, hx301_1, hx301_2, hx301_3⟩ := at_T63 HR2.out x12_3 p301 q301
        have hw301_3 := hx301_3
        have hw301_2 := hx301_2
        have hw301_1 := hx301_1
        have hw301_0 := hx301_0
        obtain rfl : ad300 = ad301 := (by injection e301)
        replace hx301_0 := clTr HB.out hx301_0
        replace hx301_1 := clTr HB.out hx301_1
        replace hx301_2 := clTr HB.out hx301_2
        replace hx301_3 := clTr HB.out hx301_3
        replace p301 := eq_true p301
        replace q301 := eq_true q301
        refine start_ (n := 22) (S := fun w' => w'.cell? (ad300.add ((x10_2).toNat * 4)) = some (.int .i64 ((rd_T63 l2 x10_2).f0.f0)) ∧ w'.cell? ⟨(ad300.add ((x10_2).toNat * 4)).block, (ad300.add ((x10_2).toNat * 4)).off + 1, none⟩ = some (.int .i64 ((rd_T63 l2 x10_2).f0.f1)) ∧ w'.cell? ⟨(ad300.add ((x10_2).toNat * 4)).block, (ad300.add ((x10_2).toNat * 4)).off + 2, none⟩ = some (.int .i64 ((rd_T63 l2 x10_2).f0.f2)) ∧ w'.cell? ⟨(ad300.add ((x10_2).toNat * 4)).block, (ad300.add ((x10_2).toNat * 4)).off + 3, none⟩ = some (.int .i64 ((rd_T63 l2 x10_2).f1)) ∧ w'.cell? (ad300.add ((x12_3).toNat * 4)) = some (.int .i64 ((rd_T63 l2 x12_3).f0.f0)) ∧ w'.cell? ⟨(ad300.add ((x12_3).toNat * 4)).block, (ad300.add ((x12_3).toNat * 4)).off + 1, none⟩ = some (.int .i64 ((rd_T63 l2 x12_3).f0.f1)) ∧ w'.cell? ⟨(ad300.add ((x12_3).toNat * 4)).block, (ad300.add ((x12_3).toNat * 4)).off + 2, none⟩ = some (.int .i64 ((rd_T63 l2 x12_3).f0.f2)) ∧ w'.cell? ⟨(ad300.add ((x12_3).toNat * 4)).block, (ad300.add ((x12_3).toNat * 4)).off + 3, none⟩ = some (.int .i64 ((rd_T63 l2 x12_3).f1))) (ds := []) (bv_ 22 0) (by kernel_rfl) rfl rfl ⟨(clTr HB.out hw300_0 :), (clTr HB.out hw300_1 :), (clTr HB.out hw300_2 :), (clTr HB.out hw300_3 :), (clTr HB.out hw301_0 :), (clTr HB.out hw301_1 :), (clTr HB.out hw301_2 :), (clTr HB.out hw301_3 :)⟩ (fun hHeld => ?_); refine with_tabW spec_MeasureOfFlow.tab18 spec_MeasureOfFlow.bits18 (fun HT_ HW_ => ?_)
        generalize wr.drew = w40 at HO_300003 BK291 BK292 BK299 HB hx300_0 hx300_1 hx300_2 hx300_3 hx301_0 hx301_1 hx301_2 hx301_3 hHeld ⊢
        refine px_ HT_ 0 56 1 ?_
        refine px_ HT_ 1 57 3 ?_
        refine px_ HT_ 2 58 7 ?_
        refine px_ HT_ 3 59 15 ?_
        refine px_ HT_ 4 60 31 ?_
        refine px_ HT_ 5 61 63 ?_
        refine px_ HT_ 6 62 127 ?_
        refine px_ HT_ 7 63 255 ?_
        refine px_ HT_ 8 64 511 ?_
        refine px_ HT_ 9 65 1023 ?_
        refine px_ HT_ 10 66 2047 ?_
        refine px_ HT_ 12 68 6143 ?_
        refine px_ HT_ 13 69 14335 ?_
        refine px_ HT_ 14 70 30719 ?_
        refine px_ HT_ 15 71 63487 ?_
        refine ta_ HT_ HW_ 11 (some 67) (bv_ 22 65535) hHeld ?_ (hy := by rintro w' ⟨s0, s1, s2, s3, s4, s5, s6, s7⟩; go_simp; with_reducible rfl)
        refine ta_ HT_ HW_ 16 (some 72) (bv_ 22 131071) hHeld ?_ (hy := by rintro w' ⟨s0, s1, s2, s3, s4, s5, s6, s7⟩; go_simp; with_reducible rfl)
        refine on_ HT_ 17 (some 73) (bv_ 22 262143) (fun K hK => ?_)
        refine gs_ Try.func41 #[.int .i64 a0, .agg #[.int .i64 ((rd_T63 l2 x10_2).f0.f0), .int .i64 ((rd_T63 l2 x10_2).f0.f1), .int .i64 ((rd_T63 l2 x10_2).f0.f2)], .agg #[.int .i64 ((rd_T63 l2 x12_3).f0.f0), .int .i64 ((rd_T63 l2 x12_3).f0.f1), .int .i64 ((rd_T63 l2 x12_3).f0.f2)]] ?_
        with_reducible refine (spec_l01Holds.calls k3 a0 ((rd_T63 l2 x10_2).f0.f0) ((rd_T63 l2 x10_2).f0.f1) ((rd_T63 l2 x10_2).f0.f2) ((rd_T63 l2 x12_3).f0.f0) ((rd_T63 l2 x12_3).f0.f1) ((rd_T63 l2 x12_3).f0.f2) t302 _ A39.out).mono ?_
        rintro e w41 ⟨rfl, hb⟩
        refine ⟨_, rfl, ?_⟩
        replace HO_300003 := rb_ HO_300003 hb
        replace BK291 := bb_ BK291 hb
        replace BK292 := bb_ BK292 hb
        replace BK299 := bb_ BK299 hb
        replace HB := bt_ HB hb
        try clear hb
        refine hK.out _ _ ⟨(clTr HB.out hw300_0 :), (clTr HB.out hw300_1 :), (clTr HB.out hw300_2 :), (clTr HB.out hw300_3 :), (clTr HB.out hw301_0 :), (clTr HB.out hw301_1 :), (clTr HB.out hw301_2 :), (clTr HB.out hw301_3 :)⟩ (fun hHeld => ?_)
        clear hK K
        refine nm_ (some 73) ?_
        refine px_ HT_ 18 74 524287 ?_
        refine px_ HT_ 19 75 1048575 ?_
        refine px_ HT_ 20 76 2097151 ?_
        refine px_ HT_ 21 11 4194303 ?_
        refine done_ (done_of HT_.out (by kernel_rfl)) ?_
        try go_wp2
        go_roundg k3
        case measure => have := HK1.out; have := HK2.out; have := HK3.out; omega
        case rel => exact ⟨(!t302), (wrap64 (x12_3 + 1)), en_, en_, H', ⟨by have := HK1.out; have := HK2.out; have := HK3.out; omega⟩, ⟨by (with_reducible repeat (first | apply Kd.R_alloc | apply Kd.R_drewN | apply Kd.R_drew)); exact HO_300003.out⟩, bl_ BK291, bl_ BK292, bl_ BK299, bw_ HB⟩
       have H' := Aside0.mk H
       clear H
       try go_wp2
       replace HO_300003 := Aside0.mk (Kd.R_drew HO_300003.out)
       replace BK291 := bd_ BK291
       replace BK292 := bd_ BK292
       replace BK299 := bd_ BK299
       replace HB := be_ HB
       refine start_ (n := 22) (S := fun w' => True) (ds := []) (bv_ 22 0) (by kernel_rfl) rfl rfl trivial (fun hHeld => ?_); refine with_tabW spec_MeasureOfFlow.tab18 spec_MeasureOfFlow.bits18 (fun HT_ HW_ => ?_)
       generalize wr.drew = w42 at HO_300003 BK291 BK292 BK299 HB hHeld ⊢
       refine px_ HT_ 0 56 1 ?_
       refine px_ HT_ 1 57 3 ?_
       refine pv_ HT_ 2 (some 58) (bv_ 22 7) ?_
       refine pv_ HT_ 3 (some 59) (bv_ 22 15) ?_
       refine pv_ HT_ 4 (some 60) (bv_ 22 31) ?_
       refine pv_ HT_ 5 (some 61) (bv_ 22 63) ?_
       refine pv_ HT_ 6 (some 62) (bv_ 22 127) ?_
       refine pv_ HT_ 7 (some 63) (bv_ 22 255) ?_
       refine pv_ HT_ 8 (some 64) (bv_ 22 511) ?_
       refine pv_ HT_ 9 (some 65) (bv_ 22 1023) ?_
       refine pv_ HT_ 10 (some 66) (bv_ 22 2047) ?_
       refine pv_ HT_ 11 (some 67) (bv_ 22 4095) ?_
       refine pv_ HT_ 12 (some 68) (bv_ 22 8191) ?_
       refine pv_ HT_ 13 (some 69) (bv_ 22 16383) ?_
       refine pv_ HT_ 14 (some 70) (bv_ 22 32767) ?_
       refine pv_ HT_ 15 (some 71) (bv_ 22 65535) ?_
       refine pv_ HT_ 16 (some 72) (bv_ 22 131071) ?_
       refine pv_ HT_ 17 (some 73) (bv_ 22 262143) ?_
       refine pv_ HT_ 18 (some 74) (bv_ 22 524287) ?_
       refine pv_ HT_ 19 (some 75) (bv_ 22 1048575) ?_
       refine px_ HT_ 20 76 2097151 ?_
       refine px_ HT_ 21 11 4194303 ?_
       refine done_ (done_of HT_.out (by kernel_rfl)) ?_
       try go_wp2
       go_roundg k3
       case measure => have := HK1.out; have := HK2.out; have := HK3.out; omega
       case rel => exact ⟨(false), (wrap64 (x12_3 + 1)), en_, en_, H', ⟨by have := HK1.out; have := HK2.out; have := HK3.out; omega⟩, ⟨by (with_reducible repeat (first | apply Kd.R_alloc | apply Kd.R_drewN | apply Kd.R_drew)); exact HO_300003.out⟩, bl_ BK291, bl_ BK292, bl_ BK299, bw_ HB⟩
      replace H := ib_ H
      rcases H with ⟨rfl, H⟩ | ⟨rfl, H⟩
      ·replace H := imn_ H
       obtain ⟨c44b0, H⟩ := H
       replace H := iln_ H
       obtain ⟨c45b0, H⟩ := H
       by_cases c46 : x300003_2.length < 4398046511104
       ·rw [if_pos c46] at H
        have LMc46 := Aside0.mk c46
        clear c46
        obtain ⟨y305, hy305⟩ : ∃ y_ : List (S72), y_ = (x300003_2 ++ [(⟨(⟨(rd_T63 l2 x10_2).f0.f0, (rd_T63 l2 x10_2).f0.f1, (rd_T63 l2 x10_2).f0.f2⟩ : S31), (rd_T63 l2 x10_2).f1⟩ : S72)]) := ⟨_, rfl⟩
        replace H : (spec_MeasureOfFlow.l1 k3 a0 l2 (wrap64 (x10_2 + 1)) a1_0 a1_1 a1_2 y305) = some (r1, r2, r3, r4, r5) := by first | (rw [hy305]; with_reducible exact H) | (have H2_ := (Option.bind_some _ _).symm.trans H; rw [hy305]; with_reducible exact H2_) | (have H2_ := (Option.bind_some _ _).symm.trans H; with_reducible exact H2_) | with_reducible exact H | (rw [hy305]; exact H) | exact H
        have Ny305 := Aside0.mk hy305
        clear hy305
        have H' := Aside0.mk H
        clear H
        try go_wp2
        replace HO_300003 := Aside0.mk (Kd.R_drew HO_300003.out)
        replace BK291 := bd_ BK291
        replace BK292 := bd_ BK292
        replace BK299 := bd_ BK299
        replace HB := be_ HB
        have p303 : 0 ≤ (x10_2 : Int) := od_
        have q303 : x10_2 < (l2.length : Int) := od_
        obtain ⟨ad303, e303, hx303_0, hx303_1, hx303_2, hx303_3⟩ := at_T63 HR2.out x10_2 p303 q303
        have hw303_3 := hx303_3
        have hw303_2 := hx303_2
        have hw303_1 := hx303_1
        have hw303_0 := hx303_0
        cases e303
        replace hx303_0 := clTr HB.out hx303_0
        replace hx303_1 := clTr HB.out hx303_1
        replace hx303_2 := clTr HB.out hx303_2
        replace hx303_3 := clTr HB.out hx303_3
        replace p303 := eq_true p303
        replace q303 := eq_true q303
        have p304 : 0 ≤ (x10_2 : Int) := od_
        have q304 : x10_2 < (l2.length : Int) := od_
        obtain ⟨ad304, e304, hx304_0, hx304_1, hx304_2, hx304_3⟩ := at_T63 HR2.out x10_2 p304 q304
        have hw304_3 := hx304_3
        have hw304_2 := hx304_2
        have hw304_1 := hx304_1
        have hw304_0 := hx304_0
        obtain rfl : ad303 = ad304 := (by injection e304)
        replace hx304_0 := clTr HB.out hx304_0
        replace hx304_1 := clTr HB.out hx304_1
        replace hx304_2 := clTr HB.out hx304_2
        replace hx304_3 := clTr HB.out hx304_3
        replace p304 := eq_true p304
        replace q304 := eq_true q304
        refine start_ (n := 17) (S := fun w' => w'.cell? ⟨gb299, 0, none⟩ = some (.int .i64 a1_0) ∧ w'.cell? ⟨gb299, 1, none⟩ = some (.int .i64 a1_1) ∧ w'.cell? ⟨gb299, 2, none⟩ = some (.int .i64 a1_2) ∧ w'.cell? ⟨gb299, 3, none⟩ = some (u300003) ∧ w'.cell? (ad303.add ((x10_2).toNat * 4)) = some (.int .i64 ((rd_T63 l2 x10_2).f0.f0)) ∧ w'.cell? ⟨(ad303.add ((x10_2).toNat * 4)).block, (ad303.add ((x10_2).toNat * 4)).off + 1, none⟩ = some (.int .i64 ((rd_T63 l2 x10_2).f0.f1)) ∧ w'.cell? ⟨(ad303.add ((x10_2).toNat * 4)).block, (ad303.add ((x10_2).toNat * 4)).off + 2, none⟩ = some (.int .i64 ((rd_T63 l2 x10_2).f0.f2)) ∧ w'.cell? ⟨(ad303.add ((x10_2).toNat * 4)).block, (ad303.add ((x10_2).toNat * 4)).off + 3, none⟩ = some (.int .i64 ((rd_T63 l2 x10_2).f1)) ∧ w'.cell? (ad303.add ((x10_2).toNat * 4)) = some (.int .i64 ((rd_T63 l2 x10_2).f0.f0)) ∧ w'.cell? ⟨(ad303.add ((x10_2).toNat * 4)).block, (ad303.add ((x10_2).toNat * 4)).off + 1, none⟩ = some (.int .i64 ((rd_T63 l2 x10_2).f0.f1)) ∧ w'.cell? ⟨(ad303.add ((x10_2).toNat * 4)).block, (ad303.add ((x10_2).toNat * 4)).off + 2, none⟩ = some (.int .i64 ((rd_T63 l2 x10_2).f0.f2)) ∧ w'.cell? ⟨(ad303.add ((x10_2).toNat * 4)).block, (ad303.add ((x10_2).toNat * 4)).off + 3, none⟩ = some (.int .i64 ((rd_T63 l2 x10_2).f1))) (ds := [16]) (bv_ 17 0) (by kernel_rfl) rfl rfl ⟨cz_ BK299 0, cz_ BK299 1, cz_ BK299 2, cz_ BK299 3, (clTr HB.out hw303_0 :), (clTr HB.out hw303_1 :), (clTr HB.out hw303_2 :), (clTr HB.out hw303_3 :), (clTr HB.out hw304_0 :), (clTr HB.out hw304_1 :), (clTr HB.out hw304_2 :), (clTr HB.out hw304_3 :)⟩ (fun hHeld => ?_); refine with_tabW spec_MeasureOfFlow.tab20 spec_MeasureOfFlow.bits20 (fun HT_ HW_ => ?_)
        generalize wr.drew = w47 at HO_300003 BK291 BK292 BK299 HB hx303_0 hx303_1 hx303_2 hx303_3 hx304_0 hx304_1 hx304_2 hx304_3 hHeld ⊢
        refine px_ HT_ 0 78 1 ?_
        refine px_ HT_ 2 80 5 ?_
        refine px_ HT_ 3 81 13 ?_
        refine px_ HT_ 4 82 29 ?_
        refine px_ HT_ 5 83 61 ?_
        refine px_ HT_ 7 85 189 ?_
        refine px_ HT_ 8 86 445 ?_
        refine px_ HT_ 9 87 957 ?_
        refine px_ HT_ 10 88 1981 ?_
        refine ta_ HT_ HW_ 1 (some 79) (bv_ 17 1983) hHeld ?_ (hy := by rintro w' ⟨s0, s1, s2, s3, s4, s5, s6, s7, s8, s9, s10, s11⟩; go_simp; with_reducible rfl)
        refine ta_ HT_ HW_ 6 (some 84) (bv_ 17 2047) hHeld ?_ (hy := by rintro w' ⟨s0, s1, s2, s3, s4, s5, s6, s7, s8, s9, s10, s11⟩; go_simp; with_reducible rfl)
        refine ta_ HT_ HW_ 11 (some 89) (bv_ 17 4095) hHeld ?_ (hy := by rintro w' ⟨s0, s1, s2, s3, s4, s5, s6, s7, s8, s9, s10, s11⟩; go_simp; with_reducible rfl)
        refine px_ HT_ 12 90 8191 ?_
        refine on_ HT_ 13 (some 91) (bv_ 17 16383) (fun K hK => ?_)
        refine value_ (w1 := ?_) (v := ?_) (by rfl) rfl ?_ ?_
        rotate_left 2
        ·go_simp
         constructor
         ·rfl
         rfl
        refine hK.out _ _ ⟨(blk_cell (blk_alloc BK299.out _) 0).trans rfl, (blk_cell (blk_alloc BK299.out _) 1).trans rfl, (blk_cell (blk_alloc BK299.out _) 2).trans rfl, (blk_cell (blk_alloc BK299.out _) 3).trans rfl, (World.cell?_alloc_lt _ _ _ (World.block_lt_of_cell? _ _ ((clTr HB.out hw303_0 :)))).trans ((clTr HB.out hw303_0 :)), (World.cell?_alloc_lt _ _ _ (World.block_lt_of_cell? _ _ ((clTr HB.out hw303_1 :)))).trans ((clTr HB.out hw303_1 :)), (World.cell?_alloc_lt _ _ _ (World.block_lt_of_cell? _ _ ((clTr HB.out hw303_2 :)))).trans ((clTr HB.out hw303_2 :)), (World.cell?_alloc_lt _ _ _ (World.block_lt_of_cell? _ _ ((clTr HB.out hw303_3 :)))).trans ((clTr HB.out hw303_3 :)), (World.cell?_alloc_lt _ _ _ (World.block_lt_of_cell? _ _ ((clTr HB.out hw304_0 :)))).trans ((clTr HB.out hw304_0 :)), (World.cell?_alloc_lt _ _ _ (World.block_lt_of_cell? _ _ ((clTr HB.out hw304_1 :)))).trans ((clTr HB.out hw304_1 :)), (World.cell?_alloc_lt _ _ _ (World.block_lt_of_cell? _ _ ((clTr HB.out hw304_2 :)))).trans ((clTr HB.out hw304_2 :)), (World.cell?_alloc_lt _ _ _ (World.block_lt_of_cell? _ _ ((clTr HB.out hw304_3 :)))).trans ((clTr HB.out hw304_3 :))⟩ (fun hHeld => ?_)
        clear hK K
        refine nm_ (some 91) ?_
        refine on_ HT_ 14 (some 92) (bv_ 17 32767) (fun K hK => ?_)
        refine Kd.R_append_step k72 (w0 := w) w.heap.size (by rfl) (.tmp 79) (.tmp 91) 32 72 (.agg #[(.int .i64 0), (.int .i64 0), (.int .i64 0), (.int .i64 0)]) 32 rfl Try.underlying32 info72 rfl (by decide) (by omega) u300003 x300003_2 (⟨(⟨(rd_T63 l2 x10_2).f0.f0, (rd_T63 l2 x10_2).f0.f1, (rd_T63 l2 x10_2).f0.f2⟩ : S31), (rd_T63 l2 x10_2).f1⟩ : S72) [.int .i64 ((rd_T63 l2 x10_2).f0.f0), .int .i64 ((rd_T63 l2 x10_2).f0.f1), .int .i64 ((rd_T63 l2 x10_2).f0.f2), .int .i64 ((rd_T63 l2 x10_2).f1)] (fun _ => True) (fun _ => False) rfl rfl ?aP (fun _ hk => hk.elim) ?aF ?aO ?aB ?aS ?aL ?_
        (case aP => exact k72_mkM _ _ _ (⟨(⟨(rd_T63 l2 x10_2).f0.f0, (rd_T63 l2 x10_2).f0.f1, (rd_T63 l2 x10_2).f0.f2⟩ : S31), (rd_T63 l2 x10_2).f1⟩ : S72))
        (case aB => exact (bw_ HB).out)
        (case aF => exact (fun _ _ => trivial))
        (case aO => exact (ra_ HO_300003.out))
        (case aS => exact (below_size (bw_ HB).out))
        (case aL => have := LMc46.out; omega)
        intro v306 w48 ho hb hg hat
        rw [← Ny305.out] at ho
        have n0_ := Aside0.mk (blk_grown (g := gb291) (o := .cells #[.int .i64 a1_0, .int .i64 a1_1, .int .i64 a1_2] 31 (0, 0)) (bl_ BK291).out hg (Kd.R_ne HO_300003.out BK291.out (by decide)))
        have n1_ := Aside0.mk (blk_grown (g := gb292) (o := .cells #[.int .i64 x293000_1, .int .i64 x293001_1, .int .i64 x293002_1, .slice none 0 0] 34 (0, 0)) (bl_ BK292).out hg (Kd.R_ne HO_300003.out BK292.out (by decide)))
        have n2_ := Aside0.mk (blk_grown (g := gb299) (o := .cells #[.int .i64 a1_0, .int .i64 a1_1, .int .i64 a1_2, u300003] 34 (0, 0)) (bl_ BK299).out hg (Kd.R_ne HO_300003.out BK299.out (by decide)))
        have n3_ := Aside0.mk (hb)
        have n4_ := Aside0.mk (ho)
        clear BK291
        clear BK292
        clear BK299
        clear HB
        clear HO_300003
        have BK291 := n0_
        have BK292 := n1_
        have BK299 := n2_
        have HB := n3_
        have HO307 := n4_
        clear n0_ n1_ n2_ n3_ n4_
        clear ho hb hg hat
        obtain ⟨Ao49, co49, eo49⟩ := Kd.R_slice HO307.out
        (first | subst eo49 | (injection eo49 with f1_ f2_ f3_; have f4_ := f1_.symm; have f5_ := f3_.symm; clear f1_ f2_ f3_; subst f4_; subst f5_))
        refine hK.out _ _ ⟨cz_ BK299 0, cz_ BK299 1, cz_ BK299 2, cz_ BK299 3, (clTr HB.out hw303_0 :), (clTr HB.out hw303_1 :), (clTr HB.out hw303_2 :), (clTr HB.out hw303_3 :), (clTr HB.out hw304_0 :), (clTr HB.out hw304_1 :), (clTr HB.out hw304_2 :), (clTr HB.out hw304_3 :)⟩ (fun hHeld => ?_)
        clear hK K
        refine nm_ (some 92) ?_
        refine px_ HT_ 15 93 65535 ?_
        refine last_ (i := 16) (N := none) (bv_ 17 131071) rfl rfl (one_of HT_.out (by kernel_rfl)) (by decide) (fun K hK => ?_)
        have hs50 : w48.cell? ⟨gb299, 3, none⟩ = some (u300003) := (blk_cell BK299.out 3).trans rfl
        have hfs50 := blk_frozen BK299.out 3
        have hns50_0 := NB291_299.out
        have hns50_1 := NB292_299.out
        have hms50_0 := NB299_291.out
        have hms50_1 := NB299_292.out
        refine skip_ (w1 := ?_) (by rfl) rfl ?_ ?_
        rotate_left
        ·go_simp
         rfl
        refine hK.out _ _ ?_
        clear hK K
        refine done_ (done_of HT_.out (by kernel_rfl)) ?_
        try go_wp2
        go_roundg k3
        case measure => have := HK1.out; have := HK2.out; have := HK3.out; omega
        case rel => exact ⟨(wrap64 (x10_2 + 1)), (y305), (.slice Ao49 y305.length co49), en_, H', ⟨by have := HK1.out; have := HK2.out; have := HK3.out; omega⟩, ⟨by (with_reducible repeat (first | apply Kd.R_alloc | apply Kd.R_drewN | apply Kd.R_drew)); exact Kd.R_mono (Kd.R_far (p := ⟨gb299, 3, none⟩) (Kd.R_types HO307.out BK299.out (by decide)) (fun _ hk => hk.2) (.slice Ao49 y305.length co49)) (fun _ hk => trivial)⟩, fl_ BK291 NB291_299, fl_ BK292 NB292_299, bp_ BK299, bw_ HB⟩
       rw [if_neg c46] at H
       exact absurd H (by simp)
      have H' := Aside0.mk H
      clear H
      go_wp2
      go_roundg k3
      case measure => have := HK1.out; have := HK2.out; have := HK3.out; omega
      case rel => exact ⟨(wrap64 (x10_2 + 1)), (x300003_2), (u300003), en_, H', ⟨by have := HK1.out; have := HK2.out; have := HK3.out; omega⟩, ⟨by (with_reducible repeat (first | apply Kd.R_alloc | apply Kd.R_drewN | apply Kd.R_drew)); exact HO_300003.out⟩, bl_ BK291, bl_ BK292, bl_ BK299, bw_ HB⟩
    replace H := oc_ H
    obtain ⟨t308, A51, H⟩ := H
    replace H := oc_ H
    obtain ⟨t311, A52, H⟩ := H
    replace H := ib_ H
    rcases H with ⟨rfl, H⟩ | ⟨rfl, H⟩
    ·replace H := oc_ H
     obtain ⟨⟨t312, t315⟩, A54, H⟩ := H
     have HC55 := Aside0.mk H
     clear H
     have hnb56 := NB299_291.out
     have hnc56 := NB291_299.out
     have hnb57 := NB299_292.out
     have hnc57 := NB292_299.out
     obtain ⟨hcz58_0, hcz58_1, hcz58_2, hcz58_3, hfz58_0, hfz58_1, hfz58_2, hfz58_3⟩ := ch4_ BK299
     obtain ⟨Ao59, co59, eo59⟩ := Kd.R_slice HO_300003.out
     subst eo59
     go_upto_block 6 with (first | ((refine gc_ 61 ?_); refine ge_ 97 Try.func61 #[.int .i64 a0, .slice Ao59 x300003_2.length co59] ?_; (with_reducible refine (spec_l08Sorted.calls k2 a0 _ _ x300003_2 t308 _ ?side1 ?side2 A51.out).mono ?_); (case side1 => exact ca_ (Kd.R_reads' HO_300003.out).2.2); (case side2 => exact (Kd.R_reads' HO_300003.out).2.1); rintro e w60 ⟨v309, rfl, ho0, hb⟩; refine ⟨_, rfl, ?_⟩; have HO310 := Aside0.mk (Kd.R_lower (Kd.R_new' ho0 (Kd.R_lt (ra_ HO_300003.out))) (below_size (bw_ HB).out)); replace HO_300003 := Aside0.mk (Kd.R_elder' (ra_ HO_300003.out) (Kd.R_base ho0) hb); replace BK291 := bb_ BK291 hb; replace BK292 := bb_ BK292 hb; replace BK299 := bb_ BK299 hb; replace HB := bt_ HB hb; (try clear hb); (try clear ho0); obtain ⟨Ao61, co61, eo61⟩ := Kd.R_slice HO310.out; subst eo61; obtain ⟨hcz62_0, hcz62_1, hcz62_2, hcz62_3, hfz62_0, hfz62_1, hfz62_2, hfz62_3⟩ := ch4_ BK299) | ((refine gc_ 30 ?_); refine ge_ 101 Try.func30 #[.int .i64 a0, .agg #[.int .i64 a1_0, .int .i64 a1_1, .int .i64 a1_2, .slice Ao61 t308.length co61]] ?_; (with_reducible refine (spec_l08Is.calls k2 a0 a1_0 a1_1 a1_2 _ _ t308 true _ ?side1 ?side2 A52.out).mono ?_); (case side1 => refine (Kd.R_reads' (e := 72) (base := w.heap.size) (ok := fun k_ => (True ∧ some k_ ≠ (.slice Ao59 x300003_2.length co59 : Value).ownBlock)) (n := t308.length) (c := co61) ?_).2.2; exact (ra_ (rs1_ HO310.out BK299.out))); (case side2 => exact (Kd.R_reads' HO310.out).2.1); rintro e w63 ⟨rfl, hb⟩; refine ⟨_, rfl, ?_⟩; replace HO_300003 := Aside0.mk (Kd.R_below (ra_ (rs1_ HO_300003.out BK299.out)) hb); replace HO310 := Aside0.mk (Kd.R_below (ra_ (rs1_ HO310.out BK299.out)) hb); replace BK291 := fb_ BK291 NB291_299 hb; replace BK292 := fb_ BK292 NB292_299 hb; replace BK299 := Aside0.mk (blk_below (g := gb299) (o := .cells #[.int .i64 a1_0, .int .i64 a1_1, .int .i64 a1_2, .slice Ao61 t308.length co61] 34 (0, 0)) (bp_ BK299).out hb); replace HB := bt_ HB hb; (try clear hb); obtain ⟨hcz64_0, hcz64_1, hcz64_2, hcz64_3, hfz64_0, hfz64_1, hfz64_2, hfz64_3⟩ := ch4_ BK299) | ((refine gc_ 31 ?_); refine ge_ 107 Try.func31 #[.int .i64 a0, .agg #[.int .i64 a1_0, .int .i64 a1_1, .int .i64 a1_2, .slice Ao61 t308.length co61]] ?_; (with_reducible refine (spec_l08Flow.calls k2 a0 a1_0 a1_1 a1_2 _ _ t308 t312 t315 _ ?side1 ?side2 A54.out).mono ?_); (case side1 => exact ca_ (Kd.R_reads' HO310.out).2.2); (case side2 => exact (Kd.R_reads' HO310.out).2.1); rintro e w65 ⟨v313, rfl, ho0, hb⟩; refine ⟨_, rfl, ?_⟩; have HO314 := Aside0.mk (Kd.R_lower ho0 (below_size (bw_ HB).out)); replace HO_300003 := rb_ HO_300003 hb; replace HO310 := rb_ HO310 hb; replace BK291 := bb_ BK291 hb; replace BK292 := bb_ BK292 hb; replace BK299 := bb_ BK299 hb; replace HB := bt_ HB hb; (try clear hb); (try clear ho0); obtain ⟨Ao66, co66, eo66⟩ := Kd.R_slice HO314.out; subst eo66))
     (try simp only [Act.put, lstS, lstZ, lstC])
     go_cut [15] (fun v15 wc => ∃ (kq : Nat) (x15_54 : Bool), v15 = .bool x15_54 ∧ Aside0 (spec_MeasureOfFlow.j4 kq t315 x15_54 a1_0 a1_1 a1_2 t308 = some (r1, r2, r3, r4, r5)) ∧ Aside0 (kq ≤ k2) ∧ Aside0 (Kd.R k72 72 wc w.heap.size (fun _ => True) (.slice Ao61 t308.length co61) t308) ∧ Aside0 (wc.heap[gb291]? = some (.cells #[.int .i64 a1_0, .int .i64 a1_1, .int .i64 a1_2] 31 (0, 0))) ∧ Aside0 (wc.heap[gb292]? = some (.cells #[.int .i64 x293000_1, .int .i64 x293001_1, .int .i64 x293002_1, (.slice none 0 0)] 34 (0, 0))) ∧ Aside0 (wc.heap[gb299]? = some (.cells #[.int .i64 a1_0, .int .i64 a1_1, .int .i64 a1_2, (.slice Ao61 t308.length co61)] 34 (0, 0))) ∧ Aside0 (Below w.heap.size w wc))
     case first =>
      have H := HC55.out
      clear HC55
      have H' := Aside0.mk H
      clear H
      go_wp2
      go_loopg [15, 16] k2 (fun kq v15 v16 w' => ∃ (x15_3 : Bool) (x16_3 : Int), v15 = .bool x15_3 ∧ v16 = .int .i64 x16_3 ∧ Aside0 (spec_MeasureOfFlow.l3 kq l2 t312 t315 x15_3 x16_3 a1_0 a1_1 a1_2 t308 = some (r1, r2, r3, r4, r5)) ∧ Aside0 (kq ≤ k2) ∧ Aside0 (Kd.R k63 63 w' w.heap.size (fun _ => True) (.slice Ao66 t312.length co66) t312) ∧ Aside0 (Kd.R k72 72 w' w.heap.size (fun _ => True) (.slice Ao61 t308.length co61) t308) ∧ Aside0 (w'.heap[gb291]? = some (.cells #[.int .i64 a1_0, .int .i64 a1_1, .int .i64 a1_2] 31 (0, 0))) ∧ Aside0 (w'.heap[gb292]? = some (.cells #[.int .i64 x293000_1, .int .i64 x293001_1, .int .i64 x293002_1, (.slice none 0 0)] 34 (0, 0))) ∧ Aside0 (w'.heap[gb299]? = some (.cells #[.int .i64 a1_0, .int .i64 a1_1, .int .i64 a1_2, (.slice Ao61 t308.length co61)] 34 (0, 0))) ∧ Aside0 (Below w.heap.size w w'))
      case atStart => exact ⟨(((t312.length : Int) == (l2.length : Int))), (0), en_, en_, H', ⟨Nat.le_refl _⟩, ⟨by (with_reducible repeat (first | apply Kd.R_alloc | apply Kd.R_drewN | apply Kd.R_drew)); exact HO314.out⟩, ⟨by (with_reducible repeat (first | apply Kd.R_alloc | apply Kd.R_drewN | apply Kd.R_drew)); exact Kd.R_mono HO310.out (fun _ hk => trivial)⟩, bl_ BK291, bl_ BK292, bl_ BK299, bw_ HB⟩
      clear H'
      try clear c3
      try clear c5
      try clear c31b0
      try clear c32b0
      try clear c44b0
      try clear c45b0
      try clear c46
      try clear hcz58_0 hcz58_1 hcz58_2 hcz58_3
      try clear hcz62_0 hcz62_1 hcz62_2 hcz62_3
      try clear hcz64_0 hcz64_1 hcz64_2 hcz64_3
      try clear hfz58_0 hfz58_1 hfz58_2 hfz58_3
      try clear hfz62_0 hfz62_1 hfz62_2 hfz62_3
      try clear hfz64_0 hfz64_1 hfz64_2 hfz64_3
      try clear hx303_0
      try clear hx303_1
      try clear hx303_2
      try clear hx303_3
      try clear hx304_0
      try clear hx304_1
      try clear hx304_2
      try clear hx304_3
      try clear p303
      try clear p304
      try clear q303
      try clear q304
      obtain ⟨x15_3, x16_3, rfl, rfl, HA, HK3, HO_13, HO_300003, BK291, BK292, BK299, HB⟩ := hrel
      cases gk with
      | zero => exact absurd HA.out (by simp [spec_MeasureOfFlow.l3])
      | succ k3 =>
       have H := HA.out
       clear HA
       simp only [spec_MeasureOfFlow.l3] at H
       replace H := il_ H
       rcases H with ⟨c67b0, H⟩ | ⟨c67b0, H⟩
       ·(first | rw [c67b0] | (simp only [i64_w, i32_w]; rw [c67b0]) | skip)
        replace H := ib_ H
        rcases H with ⟨rfl, H⟩ | ⟨rfl, H⟩
        ·replace H := imn_ H
         obtain ⟨c69b0, H⟩ := H
         replace H := iln_ H
         obtain ⟨c70b0, H⟩ := H
         have H' := Aside0.mk H
         clear H
         try go_wp2
         (try (rw [drewN_self wr]; generalize hq_ : World.drewN wr _ = wr; have n0_ : Aside0 (Kd.R k63 63 wr w.heap.size (fun _ => True) (.slice Ao66 t312.length co66) t312) := ⟨by rw [← hq_]; exact (ra_ HO_13.out)⟩; have n1_ : Aside0 (Kd.R k72 72 wr w.heap.size (fun _ => True) (.slice Ao61 t308.length co61) t308) := ⟨by rw [← hq_]; exact (ra_ HO_300003.out)⟩; have n2_ := bq_ BK291 hq_; have n3_ := bq_ BK292 hq_; have n4_ := bq_ BK299 hq_; have n5_ := hq_' HB hq_; clear HO_13 HO_300003 BK291 BK292 BK299 HB hq_; have HO_13 := n0_; have HO_300003 := n1_; have BK291 := n2_; have BK292 := n3_; have BK299 := n4_; have HB := n5_; clear n0_ n1_ n2_ n3_ n4_ n5_))
         replace HO_13 := Aside0.mk (Kd.R_drew HO_13.out)
         replace HO_300003 := Aside0.mk (Kd.R_drew HO_300003.out)
         replace BK291 := bd_ BK291
         replace BK292 := bd_ BK292
         replace BK299 := bd_ BK299
         replace HB := be_ HB
         have p316 : 0 ≤ (x16_3 : Int) := od_
         have q316 : x16_3 < (t312.length : Int) := od_
         obtain ⟨ad316, e316, hx316_0, hx316_1, hx316_2, hx316_3⟩ := at_T63 (Kd.R_reads' HO_13.out).2.2 x16_3 p316 q316
         cases e316
         replace p316 := eq_true p316
         replace q316 := eq_true q316
         have p317 : 0 ≤ (x16_3 : Int) := od_
         have q317 : x16_3 < (l2.length : Int) := od_
         obtain ⟨ad317, e317, hx317_0, hx317_1, hx317_2, hx317_3⟩ := at_T63 HR2.out x16_3 p317 q317
         have hw317_3 := hx317_3
         have hw317_2 := hx317_2
         have hw317_1 := hx317_1
         have hw317_0 := hx317_0
         cases e317
         replace hx317_0 := clTr HB.out hx317_0
         replace hx317_1 := clTr HB.out hx317_1
         replace hx317_2 := clTr HB.out hx317_2
         replace hx317_3 := clTr HB.out hx317_3
         replace p317 := eq_true p317
         replace q317 := eq_true q317
         refine start_ (n := 10) (S := fun w' => w'.cell? (ad316.add ((x16_3).toNat * 4)) = some (.int .i64 ((rd_T63 t312 x16_3).f0.f0)) ∧ w'.cell? ⟨(ad316.add ((x16_3).toNat * 4)).block, (ad316.add ((x16_3).toNat * 4)).off + 1, none⟩ = some (.int .i64 ((rd_T63 t312 x16_3).f0.f1)) ∧ w'.cell? ⟨(ad316.add ((x16_3).toNat * 4)).block, (ad316.add ((x16_3).toNat * 4)).off + 2, none⟩ = some (.int .i64 ((rd_T63 t312 x16_3).f0.f2)) ∧ w'.cell? ⟨(ad316.add ((x16_3).toNat * 4)).block, (ad316.add ((x16_3).toNat * 4)).off + 3, none⟩ = some (.int .i64 ((rd_T63 t312 x16_3).f1)) ∧ w'.cell? (ad317.add ((x16_3).toNat * 4)) = some (.int .i64 ((rd_T63 l2 x16_3).f0.f0)) ∧ w'.cell? ⟨(ad317.add ((x16_3).toNat * 4)).block, (ad317.add ((x16_3).toNat * 4)).off + 1, none⟩ = some (.int .i64 ((rd_T63 l2 x16_3).f0.f1)) ∧ w'.cell? ⟨(ad317.add ((x16_3).toNat * 4)).block, (ad317.add ((x16_3).toNat * 4)).off + 2, none⟩ = some (.int .i64 ((rd_T63 l2 x16_3).f0.f2)) ∧ w'.cell? ⟨(ad317.add ((x16_3).toNat * 4)).block, (ad317.add ((x16_3).toNat * 4)).off + 3, none⟩ = some (.int .i64 ((rd_T63 l2 x16_3).f1))) (ds := []) (bv_ 10 0) (by kernel_rfl) rfl rfl ⟨hx316_0, hx316_1, hx316_2, hx316_3, (clTr HB.out hw317_0 :), (clTr HB.out hw317_1 :), (clTr HB.out hw317_2 :), (clTr HB.out hw317_3 :)⟩ (fun hHeld => ?_); refine with_tabW spec_MeasureOfFlow.tab29 spec_MeasureOfFlow.bits29 (fun HT_ HW_ => ?_)
         generalize wr.drew = w71 at HO_13 HO_300003 BK291 BK292 BK299 HB hx316_0 hx316_1 hx316_2 hx316_3 hx317_0 hx317_1 hx317_2 hx317_3 hHeld ⊢
         refine px_ HT_ 0 124 1 ?_
         refine px_ HT_ 1 125 3 ?_
         refine px_ HT_ 2 126 7 ?_
         refine px_ HT_ 4 128 23 ?_
         refine px_ HT_ 5 129 55 ?_
         refine px_ HT_ 6 130 119 ?_
         refine ta_ HT_ HW_ 3 (some 127) (bv_ 10 127) hHeld ?_ (hy := by rintro w' ⟨s0, s1, s2, s3, s4, s5, s6, s7⟩; go_simp; with_reducible rfl)
         refine ta_ HT_ HW_ 7 (some 131) (bv_ 10 255) hHeld ?_ (hy := by rintro w' ⟨s0, s1, s2, s3, s4, s5, s6, s7⟩; go_simp; with_reducible rfl)
         refine px_ HT_ 8 132 511 ?_
         refine px_ HT_ 9 15 1023 ?_
         refine done_ (done_of HT_.out (by kernel_rfl)) ?_
         try go_wp2
         go_roundg k3
         case measure => have := HK1.out; have := HK2.out; have := HK3.out; omega
         case rel => exact ⟨(((((rd_T63 t312 x16_3).f0.f0) == ((rd_T63 l2 x16_3).f0.f0) && (((rd_T63 t312 x16_3).f0.f1) == ((rd_T63 l2 x16_3).f0.f1) && (((rd_T63 t312 x16_3).f0.f2) == ((rd_T63 l2 x16_3).f0.f2)))) && (((rd_T63 t312 x16_3).f1) == ((rd_T63 l2 x16_3).f1)))), (wrap64 (x16_3 + 1)), en_, en_, H', ⟨by have := HK1.out; have := HK2.out; have := HK3.out; omega⟩, ⟨by (with_reducible repeat (first | apply Kd.R_alloc | apply Kd.R_drewN | apply Kd.R_drew)); exact HO_13.out⟩, ⟨by (with_reducible repeat (first | apply Kd.R_alloc | apply Kd.R_drewN | apply Kd.R_drew)); exact HO_300003.out⟩, bl_ BK291, bl_ BK292, bl_ BK299, bw_ HB⟩
        have H' := Aside0.mk H
        clear H
        go_wp2
        go_meet
        case rel => exact ⟨_, (false), en_, H', ⟨by have := HK1.out; have := HK2.out; have := HK3.out; first | omega | exact Nat.le_refl _⟩, ⟨by (with_reducible repeat (first | apply Kd.R_alloc | apply Kd.R_drewN | apply Kd.R_drew)); exact HO_300003.out⟩, bl_ BK291, bl_ BK292, bl_ BK299, bw_ HB⟩
       (first | rw [c67b0] | (simp only [i64_w, i32_w]; rw [c67b0]) | skip)
       have H' := Aside0.mk H
       clear H
       go_wp2
       go_meet
       case rel => exact ⟨_, (x15_3), en_, H', ⟨by have := HK1.out; have := HK2.out; have := HK3.out; first | omega | exact Nat.le_refl _⟩, ⟨by (with_reducible repeat (first | apply Kd.R_alloc | apply Kd.R_drewN | apply Kd.R_drew)); exact HO_300003.out⟩, bl_ BK291, bl_ BK292, bl_ BK299, bw_ HB⟩
     clear HC55
     try clear c3
     try clear c5
     try clear c31b0
     try clear c32b0
     try clear c44b0
     try clear c45b0
     try clear c46
     try clear c67b0
     try clear c69b0
     try clear c70b0
     try clear hcz58_0 hcz58_1 hcz58_2 hcz58_3
     try clear hcz62_0 hcz62_1 hcz62_2 hcz62_3
     try clear hcz64_0 hcz64_1 hcz64_2 hcz64_3
     try clear hfz58_0 hfz58_1 hfz58_2 hfz58_3
     try clear hfz62_0 hfz62_1 hfz62_2 hfz62_3
     try clear hfz64_0 hfz64_1 hfz64_2 hfz64_3
     try clear hx303_0
     try clear hx303_1
     try clear hx303_2
     try clear hx303_3
     try clear hx304_0
     try clear hx304_1
     try clear hx304_2
     try clear hx304_3
     try clear hx316_0
     try clear hx316_1
     try clear hx316_2
     try clear hx316_3
     try clear hx317_0
     try clear hx317_1
     try clear hx317_2
     try clear hx317_3
     try clear p303
     try clear p304
     try clear p316
     try clear p317
     try clear q303
     try clear q304
     try clear q316
     try clear q317
     obtain ⟨kq, x15_54, rfl, HA, HJ54, HO_300003, BK291, BK292, BK299, HB⟩ := hcut
     cases kq with
     | zero => exact absurd HA.out (by simp [spec_MeasureOfFlow.j4])
     | succ kj54 =>
      have H := HA.out
      clear HA
      simp only [spec_MeasureOfFlow.j4] at H
      replace H := ib_ H
      rcases H with ⟨rfl, H⟩ | ⟨rfl, H⟩
      ·replace H := ie_ H
       rcases H with ⟨c73b0, c73b1, H⟩ | ⟨c73, c73b0, c73b1, H⟩
       ·simp only [Option.some.injEq, Prod.mk.injEq] at H
        obtain ⟨rfl, rfl, rfl, rfl, rfl⟩ := H
        have hnb74 := NB299_291.out
        have hnc74 := NB291_299.out
        have hnb75 := NB299_292.out
        have hnc75 := NB292_299.out
        obtain ⟨hcz76_0, hcz76_1, hcz76_2, hcz76_3, hfz76_0, hfz76_1, hfz76_2, hfz76_3⟩ := ch4_ BK299
        have hnb77 := NB292_291.out
        have hnc77 := NB291_292.out
        obtain ⟨hcz78_0, hcz78_1, hcz78_2, hcz78_3, hfz78_0, hfz78_1, hfz78_2, hfz78_3⟩ := ch4_ BK292
        go_wp2
        refine bodyPost_ret (results_ct rfl _ _ gb292 34 #[.int .i64 a1_0, .int .i64 a1_1, .int .i64 a1_2, .slice Ao61 t308.length co61] (0, 0) _ rfl (bp_ BK292).out Try.underlying34 rfl (by kernel_rfl)) rfl ?_
        exact ⟨_, es_, by (with_reducible repeat (first | apply Kd.R_alloc | apply Kd.R_drewN | apply Kd.R_drew)); exact Kd.R_mono (Kd.R_far (p := ⟨gb292, 3, none⟩) (Kd.R_far (p := ⟨gb292, 2, none⟩) (Kd.R_far (p := ⟨gb292, 1, none⟩) (Kd.R_far (p := ⟨gb292, 0, none⟩) (Kd.R_types HO_300003.out BK292.out (by decide)) (fun _ hk => hk.2) (.int .i64 a1_0)) (fun _ hk => hk.2) (.int .i64 a1_1)) (fun _ hk => hk.2) (.int .i64 a1_2)) (fun _ hk => hk.2) (.slice Ao61 t308.length co61)) (fun _ hk => trivial), (bw_ HB).out⟩
       simp only [Option.some.injEq, Prod.mk.injEq] at H
       obtain ⟨rfl, rfl, rfl, rfl, rfl⟩ := H
       have hnb79 := NB292_291.out
       have hnc79 := NB291_292.out
       have hnb80 := NB292_299.out
       have hnc80 := NB299_292.out
       obtain ⟨hcz81_0, hcz81_1, hcz81_2, hcz81_3, hfz81_0, hfz81_1, hfz81_2, hfz81_3⟩ := ch4_ BK292
       go_wp2
       refine bodyPost_ret (results_ct rfl _ _ gb292 34 #[.int .i64 0, .int .i64 0, .int .i64 0, .slice none 0 0] (0, 0) _ rfl (bp_ BK292).out Try.underlying34 rfl (by kernel_rfl)) rfl ?_
       exact ⟨_, es_, by first | exact Kd.R_nil _ _ _ _ _ | exact Kd.N_nil _ _ _ _ _ | exact Kd.V_nil _ _ _ _ _ | exact Kd.Q_nil _ _ _ _ _ | exact Kd.S_nil _ _ _ _ _, (bw_ HB).out⟩
      simp only [Option.some.injEq, Prod.mk.injEq] at H
      obtain ⟨rfl, rfl, rfl, rfl, rfl⟩ := H
      have hnb82 := NB292_291.out
      have hnc82 := NB291_292.out
      have hnb83 := NB292_299.out
      have hnc83 := NB299_292.out
      obtain ⟨hcz84_0, hcz84_1, hcz84_2, hcz84_3, hfz84_0, hfz84_1, hfz84_2, hfz84_3⟩ := ch4_ BK292
      go_wp2
      refine bodyPost_ret (results_ct rfl _ _ gb292 34 #[.int .i64 0, .int .i64 0, .int .i64 0, .slice none 0 0] (0, 0) _ rfl (bp_ BK292).out Try.underlying34 rfl (by kernel_rfl)) rfl ?_
      exact ⟨_, es_, by first | exact Kd.R_nil _ _ _ _ _ | exact Kd.N_nil _ _ _ _ _ | exact Kd.V_nil _ _ _ _ _ | exact Kd.Q_nil _ _ _ _ _ | exact Kd.S_nil _ _ _ _ _, (bw_ HB).out⟩
    simp only [Option.some.injEq, Prod.mk.injEq] at H
    obtain ⟨rfl, rfl, rfl, rfl, rfl⟩ := H
    have hnb85 := NB299_291.out
    have hnc85 := NB291_299.out
    have hnb86 := NB299_292.out
    have hnc86 := NB292_299.out
    obtain ⟨hcz87_0, hcz87_1, hcz87_2, hcz87_3, hfz87_0, hfz87_1, hfz87_2, hfz87_3⟩ := ch4_ BK299
    obtain ⟨Ao88, co88, eo88⟩ := Kd.R_slice HO_300003.out
    subst eo88
    go_wp2_with (first | ((refine gc_ 61 ?_); refine ge_ 97 Try.func61 #[.int .i64 a0, .slice Ao88 x300003_2.length co88] ?_; (with_reducible refine (spec_l08Sorted.calls k2 a0 _ _ x300003_2 t308 _ ?side1 ?side2 A51.out).mono ?_); (case side1 => exact ca_ (Kd.R_reads' HO_300003.out).2.2); (case side2 => exact (Kd.R_reads' HO_300003.out).2.1); rintro e w89 ⟨v309, rfl, ho0, hb⟩; refine ⟨_, rfl, ?_⟩; have HO310 := Aside0.mk (Kd.R_lower (Kd.R_new' ho0 (Kd.R_lt (ra_ HO_300003.out))) (below_size (bw_ HB).out)); replace HO_300003 := Aside0.mk (Kd.R_elder' (ra_ HO_300003.out) (Kd.R_base ho0) hb); replace BK291 := bb_ BK291 hb; replace BK292 := bb_ BK292 hb; replace BK299 := bb_ BK299 hb; replace HB := bt_ HB hb; (try clear hb); (try clear ho0); obtain ⟨Ao90, co90, eo90⟩ := Kd.R_slice HO310.out; subst eo90; obtain ⟨hcz91_0, hcz91_1, hcz91_2, hcz91_3, hfz91_0, hfz91_1, hfz91_2, hfz91_3⟩ := ch4_ BK299) | ((refine gc_ 30 ?_); refine ge_ 101 Try.func30 #[.int .i64 a0, .agg #[.int .i64 a1_0, .int .i64 a1_1, .int .i64 a1_2, .slice Ao90 t308.length co90]] ?_; (with_reducible refine (spec_l08Is.calls k2 a0 a1_0 a1_1 a1_2 _ _ t308 false _ ?side1 ?side2 A52.out).mono ?_); (case side1 => refine (Kd.R_reads' (e := 72) (base := w.heap.size) (ok := fun k_ => (True ∧ some k_ ≠ (.slice Ao88 x300003_2.length co88 : Value).ownBlock)) (n := t308.length) (c := co90) ?_).2.2; exact (ra_ (rs1_ HO310.out BK299.out))); (case side2 => exact (Kd.R_reads' HO310.out).2.1); rintro e w92 ⟨rfl, hb⟩; refine ⟨_, rfl, ?_⟩; replace HO_300003 := Aside0.mk (Kd.R_below (ra_ (rs1_ HO_300003.out BK299.out)) hb); replace HO310 := Aside0.mk (Kd.R_below (ra_ (rs1_ HO310.out BK299.out)) hb); replace BK291 := fb_ BK291 NB291_299 hb; replace BK292 := fb_ BK292 NB292_299 hb; replace BK299 := Aside0.mk (blk_below (g := gb299) (o := .cells #[.int .i64 a1_0, .int .i64 a1_1, .int .i64 a1_2, .slice Ao90 t308.length co90] 34 (0, 0)) (bp_ BK299).out hb); replace HB := bt_ HB hb; (try clear hb); have hnb93 := NB292_291.out; have hnc93 := NB291_292.out; obtain ⟨hcz94_0, hcz94_1, hcz94_2, hcz94_3, hfz94_0, hfz94_1, hfz94_2, hfz94_3⟩ := ch4_ BK292))
    refine bodyPost_ret (results_ct rfl _ _ gb292 34 #[.int .i64 0, .int .i64 0, .int .i64 0, .slice none 0 0] (0, 0) _ rfl (bp_ BK292).out Try.underlying34 rfl (by kernel_rfl)) rfl ?_
    exact ⟨_, es_, by first | exact Kd.R_nil _ _ _ _ _ | exact Kd.N_nil _ _ _ _ _ | exact Kd.V_nil _ _ _ _ _ | exact Kd.Q_nil _ _ _ _ _ | exact Kd.S_nil _ _ _ _ _, (bw_ HB).out⟩
 simp only [Option.some.injEq, Prod.mk.injEq] at H
 obtain ⟨rfl, rfl, rfl, rfl, rfl⟩ := H
 go_enter Try.func26, Try.ntmps26
 go_wp2_with (first | ((refine gd_ 4 ?_); refine by_ 4 #[.int .i64 a1_0, .int .i64 a1_1, .int .i64 a1_2] 31 HB ?_; intro gb291 hg w95 BK291 hb GW291 HB_; replace HB := HB_; clear hb hg) | ((refine gd_ 6 ?_); refine by_ 6 #[.int .i64 0, .int .i64 0, .int .i64 0, .slice none 0 0] 34 HB ?_; intro gb292 hg w96 BK292 hb GW292 HB_; have NB291_292 := bm_ BK291 hg; have NB292_291 := bn_ BK291 hg; replace BK291 := bb_ BK291 hb; replace HB := HB_; clear hb hg; have hnb97 := NB291_292.out; have hnc97 := NB292_291.out; obtain ⟨hcz98_0, hcz98_1, hcz98_2, hfz98_0, hfz98_1, hfz98_2⟩ := ch3_ BK291) | ((refine gd_ 19 ?_); refine Kd.R_lit k31 _ 31 ?hg (N := 19) ?hd (xs := ([(⟨a1_0, a1_1, a1_2⟩ : S31)] : List (S31))) (inner := [.int .i64 a1_0, .int .i64 a1_1, .int .i64 a1_2]) (ok := fun _ => True) (okp := fun _ => True) ?hr ?hp (fun _ hk => hk) trivial (Below.refl _ _) (Nat.le_refl _) (by simp) ?_; (case hd => rfl); (case hg => rfl); (case hr => first | (go_simp; done) | (go_simp; rfl)); (case hp => exact (Reps.c3 (show Kd.M k31 _ _ _ (⟨a1_0, a1_1, a1_2⟩ : S31) [.int .i64 a1_0, .int .i64 a1_1, .int .i64 a1_2] from (k31_mkM _ _ _ (⟨a1_0, a1_1, a1_2⟩ : S31) )) (Reps.none _ _))); intro v294 w99 ho100 hb hg_ hnew_; clear hg_ hnew_; (first | rw [← Ny293.out] at ho100 | (simp only [Int.reduceToNat] at ho100; rw [← Ny293.out] at ho100)); have HO295 := Aside0.mk (Kd.R_lower (Kd.R_newB ho100 (g := gb291) (o := .cells #[.int .i64 a1_0, .int .i64 a1_1, .int .i64 a1_2] 31 (0, 0)) (bl_ BK291).out) (below_size (bw_ HB).out)); replace BK291 := bb_ BK291 hb; replace BK292 := bb_ BK292 hb; replace HB := bt_ HB hb; clear hb ho100; obtain ⟨Ao101, co101, eo101⟩ := Kd.R_slice HO295.out; subst eo101) | ((refine gc_ 59 ?_); refine ge_ 20 Try.func59 #[.int .i64 a0, .slice Ao101 y293.length co101] ?_; (with_reducible refine (spec_l01Code.calls k a0 _ _ y293 t296 _ ?side1 ?side2 A4.out).mono ?_); (case side1 => exact ca_ (Kd.R_reads' HO295.out).2.2); (case side2 => exact (Kd.R_reads' HO295.out).2.1); rintro e w102 ⟨rfl, hb⟩; refine ⟨_, rfl, ?_⟩; replace HO295 := rb_ HO295 hb; replace BK291 := bb_ BK291 hb; replace BK292 := bb_ BK292 hb; replace HB := bt_ HB hb; (try clear hb); obtain ⟨hcz103_0, hcz103_1, hcz103_2, hcz103_3, hfz103_0, hfz103_1, hfz103_2, hfz103_3⟩ := ch4_ BK292))
 refine bodyPost_ret (results_ct rfl _ _ gb292 34 #[.int .i64 0, .int .i64 0, .int .i64 0, .slice none 0 0] (0, 0) _ rfl (bp_ BK292).out Try.underlying34 rfl (by kernel_rfl)) rfl ?_
 exact ⟨_, es_, by first | exact Kd.R_nil _ _ _ _ _ | exact Kd.N_nil _ _ _ _ _ | exact Kd.V_nil _ _ _ _ _ | exact Kd.Q_nil _ _ _ _ _ | exact Kd.S_nil _ _ _ _ _, (bw_ HB).out⟩
end Go.Proofs.Ytdfcoebadjhjlaa.QI
