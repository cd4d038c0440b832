import Derived.Test.YtdfcoebadjhjlaaQHx7
import Derived.Test.YtdfcoebadjhjlaaQHx44
import Derived.Test.YtdfcoebadjhjlaaQHx52
import Derived.Test.YtdfcoebadjhjlaaQHx74
import Derived.Test.YtdfcoebadjhjlaaQHx79
import Derived.Test.YtdfcoebadjhjlaaQHx80
namespace Go.Proofs.Ytdfcoebadjhjlaa.QH
open Go.RowKit Go.Proofs.YtdfcoebadjhjlaaW.PrintWords Go.Proofs.YtdfcoebadjhjlaaW.PrintLast Go.Proofs.YtdfcoebadjhjlaaW.PrintMore
attribute [local go_sem] isSome_setCell max2_int min2_int max_two min_two max_three min_three max_four min_four
set_option linter.unusedVariables false
set_option linter.unusedSimpArgs false

/-! ### impl_RefineAt: function 22 -/
mutual
def impl_RefineAt.j0 : Nat → Int → List Int → Bool → Int → Int → Int → List (S72) → Int → Int → Int → Option (Int × Int × Int × (List (S72)) × Int)
 | 0, _, _, _, _, _, _, _, _, _, _ => none
 | k + 1, x0, x3, x36, x449000, x449001, x449002, x449003, x450000, x450001, x450002 => if x36 = true then (some (0, 0, 0, ([] : List (S72)), 2)) else ((impl_pieceAt.f x449000 x449001 x449002 x449003 x450000 x450001 x450002).bind fun t453 => (impl_RefineAt.l0 k x0 x3 t453 0 x3 (x3.length : Int) 0 x449000 x449001 x449002 x449003 x450000 x450001 x450002))
def impl_RefineAt.l0 : Nat → Int → List Int → Int → Int → List Int → Int → Int → Int → Int → Int → List (S72) → Int → Int → Int → Option (Int × Int × Int × (List (S72)) × Int)
 | 0, _, _, _, _, _, _, _, _, _, _, _, _, _, _ => none
 | k + 1, x0, x3, x11, x12, x41, x42, x43, x449000, x449001, x449002, x449003, x450000, x450001, x450002 => if x43 < x42 then (if 0 ≤ x43 then (if x43 < (x41.length : Int) then (impl_RefineAt.l0 k x0 x3 x11 (wrap64 (x12 + (rd x41 x43))) x41 x42 (wrap64 (x43 + 1)) x449000 x449001 x449002 x449003 x450000 x450001 x450002) else (none)) else (none)) else (if x11 < 0 then (impl_RefineAt.j2 k x0 x3 x11 true x449000 x449001 x449002 x449003 x450000 x450001 x450002) else (if 0 ≤ x11 then (if x11 < (x449003.length : Int) then (impl_RefineAt.j2 k x0 x3 x11 (((rd_T72 x449003 x11).f1) != x12) x449000 x449001 x449002 x449003 x450000 x450001 x450002) else (none)) else (none)))
def impl_RefineAt.j2 : Nat → Int → List Int → Int → Bool → Int → Int → Int → List (S72) → Int → Int → Int → Option (Int × Int × Int × (List (S72)) × Int)
 | 0, _, _, _, _, _, _, _, _, _, _, _ => none
 | k + 1, x0, x3, x11, x62, x449000, x449001, x449002, x449003, x450000, x450001, x450002 => if x62 = true then (some (0, 0, 0, ([] : List (S72)), 5)) else ((impl_someNeighbours.f k x0 x450000 x450001 x450002 1).bind fun bt456 => (if bt456.2 = true then (impl_RefineAt.j3 k x0 x3 x11 bt456.1 (decide ((wrap64 ((wrap64 ((x449003.length : Int) - 1)) + (bt456.1.length : Int))) > 64)) x449000 x449001 x449002 x449003) else (impl_RefineAt.j3 k x0 x3 x11 bt456.1 true x449000 x449001 x449002 x449003)))
def impl_RefineAt.j3 : Nat → Int → List Int → Int → List (S31) → Bool → Int → Int → Int → List (S72) → Option (Int × Int × Int × (List (S72)) × Int)
 | 0, _, _, _, _, _, _, _, _, _ => none
 | k + 1, x0, x3, x11, x15, x81, x449000, x449001, x449002, x449003 => if x81 = true then (some (0, 0, 0, ([] : List (S72)), 3)) else ((slices_Clone_impl_Piece.f x449003).bind fun t460 => ((slices_Delete_impl_Piece.f t460 x11 (wrap64 (x11 + 1))).bind fun t463 => (impl_RefineAt.l1 k x0 x3 t463 x15 (x15.length : Int) 0 x449000 x449001 x449002 x449003)))
def impl_RefineAt.l1 : Nat → Int → List Int → List (S72) → List (S31) → Int → Int → Int → Int → Int → List (S72) → Option (Int × Int × Int × (List (S72)) × Int)
 | 0, _, _, _, _, _, _, _, _, _, _ => none
 | k + 1, x0, x3, x17, x90, x91, x92, x449000, x449001, x449002, x449003 => if x92 < x91 then (if 0 ≤ x92 then (if x92 < (x90.length : Int) then (if x92 < (x3.length : Int) then (if x17.length < 4398046511104 then (impl_RefineAt.l1 k x0 x3 (x17 ++ [(⟨(⟨(rd_T31 x90 x92).f0, (rd_T31 x90 x92).f1, (rd_T31 x90 x92).f2⟩ : S31), rd x3 x92⟩ : S72)]) x90 x91 (wrap64 (x92 + 1)) x449000 x449001 x449002 x449003) else (none)) else (none)) else (none)) else (none)) else ((impl_sorted.f k x0 x449000 x449001 x449002 x17).bind fun bt472 => (some (bt472.1, bt472.2.1, bt472.2.2.1, bt472.2.2.2, 0)))
end
def impl_RefineAt.f (k : Nat) (a0 a1_0 a1_1 a1_2 : Int) (l1_3 : List (S72)) (a2_0 a2_1 a2_2 : Int) (l3 : List Int) : Option (Int × Int × Int × (List (S72)) × Int) := (impl_measureCode.f k a0 a1_0 a1_1 a1_2 l1_3 a2_0 a2_1 a2_2).bind fun t451 => (if t451 = 0 then (if (l3.length : Int) = a0 then ((impl_isWeight.f k l3).bind fun t452 => (impl_RefineAt.j0 k a0 l3 (!t452) a1_0 a1_1 a1_2 l1_3 a2_0 a2_1 a2_2)) else (impl_RefineAt.j0 k a0 l3 true a1_0 a1_1 a1_2 l1_3 a2_0 a2_1 a2_2)) else (some (0, 0, 0, ([] : List (S72)), t451)))
def impl_RefineAt.T21 : Bool × List (List Nat × List Nat) := (true, [([], []), ([], []), ([], []), ([], []), ([2, 3], [2, 3]), ([4], [4]), ([1, 5], [1, 5]), ([6], [6]), ([0, 7], [0, 7]), ([8, 8, 0, 1, 2, 3, 4, 5, 6, 7, 8], [0, 8])])
def impl_RefineAt.B21 : List Nat := [0, 0, 0, 0, 12, 28, 62, 126, 255, 511]
theorem impl_RefineAt.tab21 : rtab .any (opsOf Try.f22 21) = impl_RefineAt.T21 := by kernel_rfl
theorem impl_RefineAt.bits21 : waitsOk impl_RefineAt.T21.2 impl_RefineAt.B21 = true := by kernel_rfl
set_option maxHeartbeats 8000000 in
set_option maxRecDepth 100000 in
theorem impl_RefineAt.calls (k : Nat) (a0 a1_0 a1_1 a1_2 : Int) (A1_3 : Option Addr) (c1_3 : Nat) (l1_3 : List (S72)) (a2_0 a2_1 a2_2 : Int) (A3 : Option Addr) (c3 : Nat) (l3 : List Int) (r1 r2 r3 : Int) (r4 : List (S72)) (r5 : Int) (w : World) (hr1_3 : Kd.C k72 w A1_3 l1_3.length l1_3) (hc1_3 : l1_3.length ≤ c1_3) (hr3 : Kd.C (Kd.int .i64) w A3 l3.length l3) (hc3 : l3.length ≤ c3) (h : impl_RefineAt.f k a0 a1_0 a1_1 a1_2 l1_3 a2_0 a2_1 a2_2 l3 = some (r1, r2, r3, r4, r5)) :
  Calls Try.prog 22 #[.int .i64 a0, .agg #[.int .i64 a1_0, .int .i64 a1_1, .int .i64 a1_2, .slice A1_3 l1_3.length c1_3], .agg #[.int .i64 a2_0, .int .i64 a2_1, .int .i64 a2_2], .slice A3 l3.length c3] w fun e w' => ∃ v3_ : Value, e = .returned (.tuple #[.agg #[.int .i64 r1, .int .i64 r2, .int .i64 r3, v3_], .int .i64 r5]) ∧ Kd.R k72 72 w' w.heap.size (fun _ => True) v3_ r4 ∧ Below w.heap.size w w' := by
 have hu34 := Try.underlying34
 have hu31 := Try.underlying31
 have hu72 := Try.underlying72
 have HR1_3 := Aside0.mk hr1_3
 have HC1_3 := Aside0.mk hc1_3
 clear hr1_3 hc1_3
 have HR3 := Aside0.mk hr3
 have HC3 := Aside0.mk hc3
 clear hr3 hc3
 have HB := Aside0.mk (Below.refl w.heap.size w)
 unfold impl_RefineAt.f at h
 have H := h
 clear h
 replace H := oc_ H
 obtain ⟨t451, A5, H⟩ := H
 replace H := ie_ H
 rcases H with ⟨c6b0, c6b1, H⟩ | ⟨c6, c6b0, c6b1, H⟩
 ·have HC7 := Aside0.mk H
  clear H
  go_enter Try.func22, Try.ntmps22
  go_upto_region 4 with (first | ((refine gd_ 5 ?_); (try (refine gate_guard (by rfl) ?_; dsimp only)); refine by_ 5 #[.int .i64 a1_0, .int .i64 a1_1, .int .i64 a1_2, .slice A1_3 l1_3.length c1_3] 34 HB ?_; intro gb448 hg w8 BK448 hb GW448 HB_; replace HB := HB_; clear hb hg) | ((refine gd_ 6 ?_); (try (refine gate_guard (by rfl) ?_; dsimp only)); refine by_ 6 #[.int .i64 a2_0, .int .i64 a2_1, .int .i64 a2_2] 31 HB ?_; intro gb449 hg w9 BK449 hb GW449 HB_; have NB448_449 := bm_ BK448 hg; have NB449_448 := bn_ BK448 hg; replace BK448 := bb_ BK448 hb; replace HB := HB_; clear hb hg) | ((refine gd_ 8 ?_); (try (refine gate_guard (by rfl) ?_; dsimp only)); refine by_ 8 #[.int .i64 0, .int .i64 0, .int .i64 0, .slice none 0 0] 34 HB ?_; intro gb450 hg w10 BK450 hb GW450 HB_; have NB448_450 := bm_ BK448 hg; have NB450_448 := bn_ BK448 hg; have NB449_450 := bm_ BK449 hg; have NB450_449 := bn_ BK449 hg; replace BK448 := bb_ BK448 hb; replace BK449 := bb_ BK449 hb; replace HB := HB_; clear hb hg; have hnb11 := NB448_449.out; have hnc11 := NB449_448.out; have hnb12 := NB448_450.out; have hnc12 := NB450_448.out; obtain ⟨hcz13_0, hcz13_1, hcz13_2, hcz13_3, hfz13_0, hfz13_1, hfz13_2, hfz13_3⟩ := ch4_ BK448; have hnb14 := NB449_450.out; have hnc14 := NB450_449.out; obtain ⟨hcz15_0, hcz15_1, hcz15_2, hfz15_0, hfz15_1, hfz15_2⟩ := ch3_ BK449) | ((refine gc_ 44 ?_); refine ge_ 23 Try.func44 #[.int .i64 a0, .agg #[.int .i64 a1_0, .int .i64 a1_1, .int .i64 a1_2, .slice A1_3 l1_3.length c1_3], .agg #[.int .i64 a2_0, .int .i64 a2_1, .int .i64 a2_2]] ?_; (with_reducible refine (impl_measureCode.calls k a0 a1_0 a1_1 a1_2 _ _ l1_3 a2_0 a2_1 a2_2 t451 _ ?side1 ?side2 A5.out).mono ?_); (case side1 => exact ca_ (Kd.C_below HR1_3.out HB.out)); (case side2 => exact HC1_3.out); rintro e w16 ⟨rfl, hb⟩; refine ⟨_, rfl, ?_⟩; replace BK448 := bb_ BK448 hb; replace BK449 := bb_ BK449 hb; replace BK450 := bb_ BK450 hb; replace HB := bt_ HB hb; (try clear hb)))
  (try simp only [Act.put, lstS, lstZ, lstC])
  go_cut [36] (fun v36 wc => ∃ (kq : Nat) (x36_6 : Bool), v36 = .bool x36_6 ∧ Aside0 (impl_RefineAt.j0 kq a0 l3 x36_6 a1_0 a1_1 a1_2 l1_3 a2_0 a2_1 a2_2 = some (r1, r2, r3, r4, r5)) ∧ Aside0 (kq ≤ k) ∧ Aside0 (wc.heap[gb448]? = some (.cells #[.int .i64 a1_0, .int .i64 a1_1, .int .i64 a1_2, (.slice A1_3 l1_3.length c1_3)] 34 (0, 0))) ∧ Aside0 (wc.heap[gb449]? = some (.cells #[.int .i64 a2_0, .int .i64 a2_1, .int .i64 a2_2] 31 (0, 0))) ∧ Aside0 (wc.heap[gb450]? = some (.cells #[.int .i64 0, .int .i64 0, .int .i64 0, (.slice none 0 0)] 34 (0, 0))) ∧ Aside0 (Below w.heap.size w wc))
  case first =>
   have H := HC7.out
   clear HC7
   replace H := ie_ H
   rcases H with ⟨c17b0, c17b1, H⟩ | ⟨c17, c17b0, c17b1, H⟩
   ·(first | rw [c17b0] | (simp only [i64_w, i32_w]; rw [c17b0]) | skip)
    replace H := oc_ H
    obtain ⟨t452, A18, H⟩ := H
    have H' := Aside0.mk H
    clear H
    go_wp2_with (first | (go_at_call 56; (with_reducible refine (impl_isWeight.calls k _ _ l3 t452 _ ?side1 ?side2 A18.out).mono ?_); (case side1 => exact ca_ (Kd.C_below HR3.out (bw_ HB).out)); (case side2 => exact HC3.out); rintro e w' ⟨rfl, ⟨nd, rfl⟩⟩))
    go_meet
    case rel => exact ⟨_, (!t452), en_, H', ⟨by first | omega | exact Nat.le_refl _⟩, bl_ BK448, bl_ BK449, bl_ BK450, bw_ HB⟩
   (first | rw [c17b0] | (simp only [i64_w, i32_w]; rw [c17b0]) | skip)
   have H' := Aside0.mk H
   clear H
   go_wp2
   go_meet
   case rel => exact ⟨_, (true), en_, H', ⟨by first | omega | exact Nat.le_refl _⟩, bl_ BK448, bl_ BK449, bl_ BK450, bw_ HB⟩
  clear HC7
  try clear c3
  try clear c6
  try clear c6b0
  try clear c6b1
  try clear c17
  try clear c17b0
  try clear c17b1
  try clear hcz13_0 hcz13_1 hcz13_2 hcz13_3
  try clear hcz15_0 hcz15_1 hcz15_2
  try clear hfz13_0 hfz13_1 hfz13_2 hfz13_3
  try clear hfz15_0 hfz15_1 hfz15_2
  obtain ⟨kq, x36_6, rfl, HA, HJ6, BK448, BK449, BK450, HB⟩ := hcut
  cases kq with
  | zero => exact absurd HA.out (by simp [impl_RefineAt.j0])
  | succ kj6 =>
   have H := HA.out
   clear HA
   simp only [impl_RefineAt.j0] at H
   replace H := ib_ H
   rcases H with ⟨rfl, H⟩ | ⟨rfl, H⟩
   ·simp only [Option.some.injEq, Prod.mk.injEq] at H
    obtain ⟨rfl, rfl, rfl, rfl, rfl⟩ := H
    have hnb20 := NB450_448.out
    have hnc20 := NB448_450.out
    have hnb21 := NB450_449.out
    have hnc21 := NB449_450.out
    obtain ⟨hcz22_0, hcz22_1, hcz22_2, hcz22_3, hfz22_0, hfz22_1, hfz22_2, hfz22_3⟩ := ch4_ BK450
    go_wp2
    refine bodyPost_ret (results_ct rfl _ _ gb450 34 #[.int .i64 0, .int .i64 0, .int .i64 0, .slice none 0 0] (0, 0) _ rfl (bp_ BK450).out Try.underlying34 rfl (by kernel_rfl)) rfl ?_
    exact ⟨_, es_, by first | exact Kd.R_nil _ _ _ _ _ | exact Kd.N_nil _ _ _ _ _ | exact Kd.V_nil _ _ _ _ _ | exact Kd.Q_nil _ _ _ _ _ | exact Kd.S_nil _ _ _ _ _, (bw_ HB).out⟩
   replace H := oc_ H
   obtain ⟨t453, A23, H⟩ := H
   have H' := Aside0.mk H
   clear H
   have hnb24 := NB448_449.out
   have hnc24 := NB449_448.out
   have hnb25 := NB448_450.out
   have hnc25 := NB450_448.out
   obtain ⟨hcz26_0, hcz26_1, hcz26_2, hcz26_3, hfz26_0, hfz26_1, hfz26_2, hfz26_3⟩ := ch4_ BK448
   have hnb27 := NB449_450.out
   have hnc27 := NB450_449.out
   obtain ⟨hcz28_0, hcz28_1, hcz28_2, hfz28_0, hfz28_1, hfz28_2⟩ := ch3_ BK449
   go_wp2_with (first | ((refine gc_ 45 ?_); refine ge_ 40 Try.func45 #[.agg #[.int .i64 a1_0, .int .i64 a1_1, .int .i64 a1_2, .slice A1_3 l1_3.length c1_3], .agg #[.int .i64 a2_0, .int .i64 a2_1, .int .i64 a2_2]] ?_; (with_reducible refine (impl_pieceAt.calls a1_0 a1_1 a1_2 _ _ l1_3 a2_0 a2_1 a2_2 t453 _ ?side1 ?side2 A23.out).mono ?_); (case side1 => exact ca_ (Kd.C_below HR1_3.out HB.out)); (case side2 => exact HC1_3.out); rintro e w29 ⟨rfl, hb⟩; refine ⟨_, rfl, ?_⟩; replace BK448 := bb_ BK448 hb; replace BK449 := bb_ BK449 hb; replace BK450 := bb_ BK450 hb; replace HB := bt_ HB hb; (try clear hb)))
   go_loopg [12, 43] kj6 (fun kq v12 v43 w' => ∃ (x12_2 : Int) (x43_2 : Int), v12 = .int .i64 x12_2 ∧ v43 = .int .i64 x43_2 ∧ Aside0 (impl_RefineAt.l0 kq a0 l3 t453 x12_2 l3 (l3.length : Int) x43_2 a1_0 a1_1 a1_2 l1_3 a2_0 a2_1 a2_2 = some (r1, r2, r3, r4, r5)) ∧ Aside0 (kq ≤ kj6) ∧ Aside0 (w'.heap[gb448]? = some (.cells #[.int .i64 a1_0, .int .i64 a1_1, .int .i64 a1_2, (.slice A1_3 l1_3.length c1_3)] 34 (0, 0))) ∧ Aside0 (w'.heap[gb449]? = some (.cells #[.int .i64 a2_0, .int .i64 a2_1, .int .i64 a2_2] 31 (0, 0))) ∧ Aside0 (w'.heap[gb450]? = some (.cells #[.int .i64 0, .int .i64 0, .int .i64 0, (.slice none 0 0)] 34 (0, 0))) ∧ Aside0 (Below w.heap.size w w'))
   case atStart => exact ⟨(0), (0), en_, en_, H', ⟨Nat.le_refl _⟩, bl_ BK448, bl_ BK449, bl_ BK450, bw_ HB⟩
   clear H'
   try clear c3
   try clear c6
   try clear c6b0
   try clear c6b1
   try clear c17
   try clear c17b0
   try clear c17b1
   try clear hcz13_0 hcz13_1 hcz13_2 hcz13_3
   try clear hcz15_0 hcz15_1 hcz15_2
   try clear hcz22_0 hcz22_1 hcz22_2 hcz22_3
   try clear hcz26_0 hcz26_1 hcz26_2 hcz26_3
   try clear hcz28_0 hcz28_1 hcz28_2
   try clear hfz13_0 hfz13_1 hfz13_2 hfz13_3
   try clear hfz15_0 hfz15_1 hfz15_2
   try clear hfz22_0 hfz22_1 hfz22_2 hfz22_3
   try clear hfz26_0 hfz26_1 hfz26_2 hfz26_3
   try clear hfz28_0 hfz28_1 hfz28_2
   obtain ⟨x12_2, x43_2, rfl, rfl, HA, HK2, BK448, BK449, BK450, HB⟩ := hrel
   cases gk with
   | zero => exact absurd HA.out (by simp [impl_RefineAt.l0])
   | succ k2 =>
    have H := HA.out
    clear HA
    simp only [impl_RefineAt.l0] at H
    replace H := il_ H
    rcases H with ⟨c30b0, H⟩ | ⟨c30b0, H⟩
    ·replace H := imn_ H
     obtain ⟨c31b0, H⟩ := H
     replace H := iln_ H
     obtain ⟨c32b0, H⟩ := H
     have H' := Aside0.mk H
     clear H
     have p454 : 0 ≤ (x43_2 : Int) := od_
     have q454 : x43_2 < (l3.length : Int) := od_
     obtain ⟨ad454, e454, hx454_0⟩ := Kd.at_int HR3.out x43_2 p454 q454
     cases e454
     replace hx454_0 := clTr HB.out hx454_0
     replace p454 := eq_true p454
     replace q454 := eq_true q454
     go_wp2
     go_roundg k2
     case measure => have := HJ6.out; have := HK2.out; omega
     case rel => exact ⟨(wrap64 (x12_2 + (rd l3 x43_2))), (wrap64 (x43_2 + 1)), en_, en_, H', ⟨by have := HJ6.out; have := HK2.out; omega⟩, bl_ BK448, bl_ BK449, bl_ BK450, bw_ HB⟩
    have HC33 := Aside0.mk H
    clear H
    go_upto_region 12 with (fail)
    go_cut [62] (fun v62 wc => ∃ (kq : Nat) (x62_32 : Bool), v62 = .bool x62_32 ∧ Aside0 (impl_RefineAt.j2 kq a0 l3 t453 x62_32 a1_0 a1_1 a1_2 l1_3 a2_0 a2_1 a2_2 = some (r1, r2, r3, r4, r5)) ∧ Aside0 (kq ≤ k2) ∧ Aside0 (wc.heap[gb448]? = some (.cells #[.int .i64 a1_0, .int .i64 a1_1, .int .i64 a1_2, (.slice A1_3 l1_3.length c1_3)] 34 (0, 0))) ∧ Aside0 (wc.heap[gb449]? = some (.cells #[.int .i64 a2_0, .int .i64 a2_1, .int .i64 a2_2] 31 (0, 0))) ∧ Aside0 (wc.heap[gb450]? = some (.cells #[.int .i64 0, .int .i64 0, .int .i64 0, (.slice none 0 0)] 34 (0, 0))) ∧ Aside0 (Below w.heap.size w wc))
    case first =>
     have H := HC33.out
     clear HC33
     replace H := il_ H
     rcases H with ⟨c34b0, H⟩ | ⟨c34b0, H⟩
     ·(first | rw [c34b0] | (simp only [i64_w, i32_w]; rw [c34b0]) | skip)
      have H' := Aside0.mk H
      clear H
      go_wp2
      go_meet
      case rel => exact ⟨_, (true), en_, H', ⟨by have := HJ6.out; have := HK2.out; first | omega | exact Nat.le_refl _⟩, bl_ BK448, bl_ BK449, bl_ BK450, bw_ HB⟩
     (first | rw [c34b0] | (simp only [i64_w, i32_w]; rw [c34b0]) | skip)
     replace H := imn_ H
     obtain ⟨c35b0, H⟩ := H
     replace H := iln_ H
     obtain ⟨c36b0, H⟩ := H
     have H' := Aside0.mk H
     clear H
     have hnb37 := NB448_449.out
     have hnc37 := NB449_448.out
     have hnb38 := NB448_450.out
     have hnc38 := NB450_448.out
     obtain ⟨hcz39_0, hcz39_1, hcz39_2, hcz39_3, hfz39_0, hfz39_1, hfz39_2, hfz39_3⟩ := ch4_ BK448
     have p455 : 0 ≤ (t453 : Int) := od_
     have q455 : t453 < (l1_3.length : Int) := od_
     obtain ⟨ad455, e455, hx455_0, hx455_1, hx455_2, hx455_3⟩ := at_T72 HR1_3.out t453 p455 q455
     cases e455
     replace hx455_0 := clTr HB.out hx455_0
     replace hx455_1 := clTr HB.out hx455_1
     replace hx455_2 := clTr HB.out hx455_2
     replace hx455_3 := clTr HB.out hx455_3
     replace p455 := eq_true p455
     replace q455 := eq_true q455
     go_wp2
     go_meet
     case rel => exact ⟨_, ((((rd_T72 l1_3 t453).f1) != x12_2)), en_, H', ⟨by have := HJ6.out; have := HK2.out; first | omega | exact Nat.le_refl _⟩, bl_ BK448, bl_ BK449, bl_ BK450, bw_ HB⟩
    clear HC33
    try clear c3
    try clear c6
    try clear c6b0
    try clear c6b1
    try clear c17
    try clear c17b0
    try clear c17b1
    try clear c30b0
    try clear c31b0
    try clear c32b0
    try clear c34b0
    try clear c35b0
    try clear c36b0
    try clear hcz13_0 hcz13_1 hcz13_2 hcz13_3
    try clear hcz15_0 hcz15_1 hcz15_2
    try clear hcz22_0 hcz22_1 hcz22_2 hcz22_3
    try clear hcz26_0 hcz26_1 hcz26_2 hcz26_3
    try clear hcz28_0 hcz28_1 hcz28_2
    try clear hcz39_0 hcz39_1 hcz39_2 hcz39_3
    try clear hfz13_0 hfz13_1 hfz13_2 hfz13_3
    try clear hfz15_0 hfz15_1 hfz15_2
    try clear hfz22_0 hfz22_1 hfz22_2 hfz22_3
    try clear hfz26_0 hfz26_1 hfz26_2 hfz26_3
    try clear hfz28_0 hfz28_1 hfz28_2
    try clear hfz39_0 hfz39_1 hfz39_2 hfz39_3
    try clear hx454_0
    try clear hx455_0
    try clear hx455_1
    try clear hx455_2
    try clear hx455_3
    try clear p454
    try clear p455
    try clear q454
    try clear q455
    obtain ⟨kq, x62_32, rfl, HA, HJ32, BK448, BK449, BK450, HB⟩ := hcut
    cases kq with
    | zero => exact absurd HA.out (by simp [impl_RefineAt.j2])
    | succ kj32 =>
     have H := HA.out
     clear HA
     simp only [impl_RefineAt.j2] at H
     replace H := ib_ H
     rcases H with ⟨rfl, H⟩ | ⟨rfl, H⟩
     ·simp only [Option.some.injEq, Prod.mk.injEq] at H
      obtain ⟨rfl, rfl, rfl, rfl, rfl⟩ := H
      have hnb41 := NB450_448.out
      have hnc41 := NB448_450.out
      have hnb42 := NB450_449.out
      have hnc42 := NB449_450.out
      obtain ⟨hcz43_0, hcz43_1, hcz43_2, hcz43_3, hfz43_0, hfz43_1, hfz43_2, hfz43_3⟩ := ch4_ BK450
      go_wp2
      refine bodyPost_ret (results_ct rfl _ _ gb450 34 #[.int .i64 0, .int .i64 0, .int .i64 0, .slice none 0 0] (0, 0) _ rfl (bp_ BK450).out Try.underlying34 rfl (by kernel_rfl)) rfl ?_
      exact ⟨_, es_, by first | exact Kd.R_nil _ _ _ _ _ | exact Kd.N_nil _ _ _ _ _ | exact Kd.V_nil _ _ _ _ _ | exact Kd.Q_nil _ _ _ _ _ | exact Kd.S_nil _ _ _ _ _, (bw_ HB).out⟩
     replace H := oc_ H
     obtain ⟨⟨t456, t459⟩, A44, H⟩ := H
     have HC45 := Aside0.mk H
     clear H
     have hnb46 := NB449_448.out
     have hnc46 := NB448_449.out
     have hnb47 := NB449_450.out
     have hnc47 := NB450_449.out
     obtain ⟨hcz48_0, hcz48_1, hcz48_2, hfz48_0, hfz48_1, hfz48_2⟩ := ch3_ BK449
     go_upto_region 15 with (first | ((refine gc_ 57 ?_); refine ge_ 67 Try.func57 #[.int .i64 a0, .agg #[.int .i64 a2_0, .int .i64 a2_1, .int .i64 a2_2], .int .i64 1] ?_; (with_reducible refine (impl_someNeighbours.calls kj32 a0 a2_0 a2_1 a2_2 1 t456 t459 _ A44.out).mono ?_); rintro e w49 ⟨v457, rfl, ho0, hb⟩; refine ⟨_, rfl, ?_⟩; have HO458 := Aside0.mk (Kd.R_lower (Kd.R_newB ho0 (g := gb449) (o := .cells #[.int .i64 a2_0, .int .i64 a2_1, .int .i64 a2_2] 31 (0, 0)) (bl_ BK449).out) (below_size (bw_ HB).out)); replace BK448 := bb_ BK448 hb; replace BK449 := bb_ BK449 hb; replace BK450 := bb_ BK450 hb; replace HB := bt_ HB hb; (try clear hb); (try clear ho0)))
     (try simp only [Act.put, lstS, lstZ, lstC])
     go_cut [81] (fun v81 wc => ∃ (kq : Nat) (x81_44 : Bool), v81 = .bool x81_44 ∧ Aside0 (impl_RefineAt.j3 kq a0 l3 t453 t456 x81_44 a1_0 a1_1 a1_2 l1_3 = some (r1, r2, r3, r4, r5)) ∧ Aside0 (kq ≤ kj32) ∧ Aside0 (Kd.R k31 31 wc w.heap.size (fun k_ => k_ ≠ gb449) v457 t456) ∧ Aside0 (wc.heap[gb448]? = some (.cells #[.int .i64 a1_0, .int .i64 a1_1, .int .i64 a1_2, (.slice A1_3 l1_3.length c1_3)] 34 (0, 0))) ∧ Aside0 (wc.heap[gb449]? = some (.cells #[.int .i64 a2_0, .int .i64 a2_1, .int .i64 a2_2] 31 (0, 0))) ∧ Aside0 (wc.heap[gb450]? = some (.cells #[.int .i64 0, .int .i64 0, .int .i64 0, (.slice none 0 0)] 34 (0, 0))) ∧ Aside0 (Below w.heap.size w wc))
     case first =>
      have H := HC45.out
      clear HC45
      replace H := ib_ H
      rcases H with ⟨rfl, H⟩ | ⟨rfl, H⟩
      ·have H' := Aside0.mk H
       clear H
       have hnb51 := NB448_449.out
       have hnc51 := NB449_448.out
       have hnb52 := NB448_450.out
       have hnc52 := NB450_448.out
       obtain ⟨hcz53_0, hcz53_1, hcz53_2, hcz53_3, hfz53_0, hfz53_1, hfz53_2, hfz53_3⟩ := ch4_ BK448
       obtain ⟨Ao54, co54, eo54⟩ := Kd.R_slice HO458.out
       subst eo54
       go_wp2
       go_meet
       case rel => exact ⟨_, (decide ((wrap64 ((wrap64 ((l1_3.length : Int) - 1)) + (t456.length : Int))) > 64)), en_, H', ⟨by have := HJ6.out; have := HK2.out; have := HJ32.out; first | omega | exact Nat.le_refl _⟩, ⟨by (with_reducible repeat (first | apply Kd.R_alloc | apply Kd.R_drewN | apply Kd.R_drew)); exact Kd.R_mono HO458.out (fun _ hk => hk.2)⟩, bl_ BK448, bl_ BK449, bl_ BK450, bw_ HB⟩
      have H' := Aside0.mk H
      clear H
      go_wp2
      go_meet
      case rel => exact ⟨_, (true), en_, H', ⟨by have := HJ6.out; have := HK2.out; have := HJ32.out; first | omega | exact Nat.le_refl _⟩, ⟨by (with_reducible repeat (first | apply Kd.R_alloc | apply Kd.R_drewN | apply Kd.R_drew)); exact Kd.R_mono HO458.out (fun _ hk => hk.2)⟩, bl_ BK448, bl_ BK449, bl_ BK450, bw_ HB⟩
     clear HC45
     try clear c3
     try clear c6
     try clear c6b0
     try clear c6b1
     try clear c17
     try clear c17b0
     try clear c17b1
     try clear c30b0
     try clear c31b0
     try clear c32b0
     try clear c34b0
     try clear c35b0
     try clear c36b0
     try clear hcz13_0 hcz13_1 hcz13_2 hcz13_3
     try clear hcz15_0 hcz15_1 hcz15_2
     try clear hcz22_0 hcz22_1 hcz22_2 hcz22_3
     try clear hcz26_0 hcz26_1 hcz26_2 hcz26_3
     try clear hcz28_0 hcz28_1 hcz28_2
     try clear hcz39_0 hcz39_1 hcz39_2 hcz39_3
     try clear hcz43_0 hcz43_1 hcz43_2 hcz43_3
     try clear hcz48_0 hcz48_1 hcz48_2
     try clear hcz53_0 hcz53_1 hcz53_2 hcz53_3
     try clear hfz13_0 hfz13_1 hfz13_2 hfz13_3
     try clear hfz15_0 hfz15_1 hfz15_2
     try clear hfz22_0 hfz22_1 hfz22_2 hfz22_3
     try clear hfz26_0 hfz26_1 hfz26_2 hfz26_3
     try clear hfz28_0 hfz28_1 hfz28_2
     try clear hfz39_0 hfz39_1 hfz39_2 hfz39_3
     try clear hfz43_0 hfz43_1 hfz43_2 hfz43_3
     try clear hfz48_0 hfz48_1 hfz48_2
     try clear hfz53_0 hfz53_1 hfz53_2 hfz53_3
     try clear hx454_0
     try clear hx455_0
     try clear hx455_1
     try clear hx455_2
     try clear hx455_3
     try clear p454
     try clear p455
     try clear q454
     try clear q455
     obtain ⟨kq, x81_44, rfl, HA, HJ44, HO_15, BK448, BK449, BK450, HB⟩ := hcut
     cases kq with
     | zero => exact absurd HA.out (by simp [impl_RefineAt.j3])
     | succ kj44 =>
      have H := HA.out
      clear HA
      simp only [impl_RefineAt.j3] at H
      replace H := ib_ H
      rcases H with ⟨rfl, H⟩ | ⟨rfl, H⟩
      ·simp only [Option.some.injEq, Prod.mk.injEq] at H
       obtain ⟨rfl, rfl, rfl, rfl, rfl⟩ := H
       have hnb56 := NB450_448.out
       have hnc56 := NB448_450.out
       have hnb57 := NB450_449.out
       have hnc57 := NB449_450.out
       obtain ⟨hcz58_0, hcz58_1, hcz58_2, hcz58_3, hfz58_0, hfz58_1, hfz58_2, hfz58_3⟩ := ch4_ BK450
       go_wp2
       refine bodyPost_ret (results_ct rfl _ _ gb450 34 #[.int .i64 0, .int .i64 0, .int .i64 0, .slice none 0 0] (0, 0) _ rfl (bp_ BK450).out Try.underlying34 rfl (by kernel_rfl)) rfl ?_
       exact ⟨_, es_, by first | exact Kd.R_nil _ _ _ _ _ | exact Kd.N_nil _ _ _ _ _ | exact Kd.V_nil _ _ _ _ _ | exact Kd.Q_nil _ _ _ _ _ | exact Kd.S_nil _ _ _ _ _, (bw_ HB).out⟩
      replace H := oc_ H
      obtain ⟨t460, A59, H⟩ := H
      replace H := oc_ H
      obtain ⟨t463, A60, H⟩ := H
      have H' := Aside0.mk H
      clear H
      have hnb61 := NB448_449.out
      have hnc61 := NB449_448.out
      have hnb62 := NB448_450.out
      have hnc62 := NB450_448.out
      obtain ⟨hcz63_0, hcz63_1, hcz63_2, hcz63_3, hfz63_0, hfz63_1, hfz63_2, hfz63_3⟩ := ch4_ BK448
      go_wp2_with (first | ((refine gc_ 49 ?_); refine ge_ 85 Try.func49 #[.slice A1_3 l1_3.length c1_3] ?_; (with_reducible refine (slices_Clone_impl_Piece.calls _ _ l1_3 t460 _ ?side1 ?side2 A59.out).mono ?_); (case side1 => exact ca_ (Kd.C_below HR1_3.out HB.out)); (case side2 => exact HC1_3.out); rintro e w64 ⟨v461, rfl, ho0, hb⟩; refine ⟨_, rfl, ?_⟩; have HO462 := Aside0.mk (Kd.R_lower ho0 (below_size (bw_ HB).out)); replace HO_15 := rb_ HO_15 hb; replace BK448 := bb_ BK448 hb; replace BK449 := bb_ BK449 hb; replace BK450 := bb_ BK450 hb; replace HB := bt_ HB hb; (try clear hb); (try clear ho0); obtain ⟨Ao65, co65, eo65⟩ := Kd.R_slice HO462.out; subst eo65) | ((refine gc_ 58 ?_); refine ge_ 89 Try.func58 #[.slice Ao65 t460.length co65, .int .i64 t453, .int .i64 (wrap64 (t453 + 1))] ?_; (with_reducible refine (slices_Delete_impl_Piece.calls (fun k_ => some k_ = (.slice Ao65 t460.length co65 : Value).ownBlock) (.slice Ao65 t460.length co65) t460 t453 (wrap64 (t453 + 1)) t463 w _ ?side1 ?side2 A60.out).mono ?_); (case side1 => repeat (first | (with_reducible first | exact HB.out | apply below_alloc | apply pw_below_drewN | apply below_drew1 | refine below_set ?_ GW448.out | refine below_set ?_ GW449.out | refine below_set ?_ GW450.out) | exact HB.out)); (case side2 => exact Kd.R_tight rfl HO462.out); rintro e w66 ⟨v464, rfl, ho0, hb, hkp⟩; refine ⟨_, rfl, ?_⟩; have n0_ := Aside0.mk (Kd.R_mono (ok' := fun k_ => k_ ≠ gb449) (Kd.R_keptB ((Kd.R_apart' HO_15.out (Kd.R_typed HO462.out) (by decide))) hkp (fun k_ hk_ hs_ => (hk_.2) hs_)) (fun k_ hk_ => hk_.1.1)); have n1_ := Aside0.mk (blk_kept (bl_ BK448).out hkp (fun hs_ => (fun e_ => (Kd.R_ne HO462.out BK448.out (by decide)) e_) hs_)); have n2_ := Aside0.mk (blk_kept (bl_ BK449).out hkp (fun hs_ => (fun e_ => (Kd.R_ne HO462.out BK449.out (by decide)) e_) hs_)); have n3_ := Aside0.mk (blk_kept (bl_ BK450).out hkp (fun hs_ => (fun e_ => (Kd.R_ne HO462.out BK450.out (by decide)) e_) hs_)); have n4_ := Aside0.mk (Kd.R_mono (ok' := fun k_ => True) ho0 (fun k_ hk_ => trivial)); have n5_ := Aside0.mk (hb); clear HO_15; clear BK448; clear BK449; clear BK450; clear HB; clear HO462; have HO_15 := n0_; have BK448 := n1_; have BK449 := n2_; have BK450 := n3_; have HO465 := n4_; have HB := n5_; clear n0_ n1_ n2_ n3_ n4_ n5_; (try clear hb); (try clear hkp); (try clear ho0); obtain ⟨Ao67, co67, eo67⟩ := Kd.R_slice HO_15.out; subst eo67))
      go_loopg [17, 92] kj44 (fun kq v17 v92 w' => ∃ (x17_5 : List (S72)) (x92_5 : Int), v92 = .int .i64 x92_5 ∧ Aside0 (impl_RefineAt.l1 kq a0 l3 x17_5 t456 (t456.length : Int) x92_5 a1_0 a1_1 a1_2 l1_3 = some (r1, r2, r3, r4, r5)) ∧ Aside0 (kq ≤ kj44) ∧ Aside0 (Kd.R k72 72 w' w.heap.size (fun _ => True) v17 x17_5) ∧ Aside0 (Kd.R k31 31 w' w.heap.size (fun k_ => k_ ≠ gb449) (.slice Ao67 t456.length co67) t456) ∧ Aside0 (w'.heap[gb448]? = some (.cells #[.int .i64 a1_0, .int .i64 a1_1, .int .i64 a1_2, (.slice A1_3 l1_3.length c1_3)] 34 (0, 0))) ∧ Aside0 (w'.heap[gb449]? = some (.cells #[.int .i64 a2_0, .int .i64 a2_1, .int .i64 a2_2] 31 (0, 0))) ∧ Aside0 (w'.heap[gb450]? = some (.cells #[.int .i64 0, .int .i64 0, .int .i64 0, (.slice none 0 0)] 34 (0, 0))) ∧ Aside0 (Below w.heap.size w w'))
      case atStart => exact ⟨(t463), (0), en_, H', ⟨Nat.le_refl _⟩, ⟨by (with_reducible repeat (first | apply Kd.R_alloc | apply Kd.R_drewN | apply Kd.R_drew)); exact HO465.out⟩, ⟨by (with_reducible repeat (first | apply Kd.R_alloc | apply Kd.R_drewN | apply Kd.R_drew)); exact HO_15.out⟩, bl_ BK448, bl_ BK449, bl_ BK450, bw_ HB⟩
      clear H'
      try clear c3
      try clear c6
      try clear c6b0
      try clear c6b1
      try clear c17
      try clear c17b0
      try clear c17b1
      try clear c30b0
      try clear c31b0
      try clear c32b0
      try clear c34b0
      try clear c35b0
      try clear c36b0
      try clear hcz13_0 hcz13_1 hcz13_2 hcz13_3
      try clear hcz15_0 hcz15_1 hcz15_2
      try clear hcz22_0 hcz22_1 hcz22_2 hcz22_3
      try clear hcz26_0 hcz26_1 hcz26_2 hcz26_3
      try clear hcz28_0 hcz28_1 hcz28_2
      try clear hcz39_0 hcz39_1 hcz39_2 hcz39_3
      try clear hcz43_0 hcz43_1 hcz43_2 hcz43_3
      try clear hcz48_0 hcz48_1 hcz48_2
      try clear hcz53_0 hcz53_1 hcz53_2 hcz53_3
      try clear hcz58_0 hcz58_1 hcz58_2 hcz58_3
      try clear hcz63_0 hcz63_1 hcz63_2 hcz63_3
      try clear hfz13_0 hfz13_1 hfz13_2 hfz13_3
      try clear hfz15_0 hfz15_1 hfz15_2
      try clear hfz22_0 hfz22_1 hfz22_2 hfz22_3
      try clear hfz26_0 hfz26_1 hfz26_2 hfz26_3
      try clear hfz28_0 hfz28_1 hfz28_2
      try clear hfz39_0 hfz39_1 hfz39_2 hfz39_3
      try clear hfz43_0 hfz43_1 hfz43_2 hfz43_3
      try clear hfz48_0 hfz48_1 hfz48_2
      try clear hfz53_0 hfz53_1 hfz53_2 hfz53_3
      try clear hfz58_0 hfz58_1 hfz58_2 hfz58_3
      try clear hfz63_0 hfz63_1 hfz63_2 hfz63_3
      try clear hx454_0
      try clear hx455_0
      try clear hx455_1
      try clear hx455_2
      try clear hx455_3
      try clear p454
      try clear p455
      try clear q454
      try clear q455
      obtain ⟨x17_5, x92_5, rfl, HA, HK5, HO_17, HO_90, BK448, BK449, BK450, HB⟩ := hrel
      cases gk with
      | zero => exact absurd HA.out (by simp [impl_RefineAt.l1])
      | succ k5 =>
       have H := HA.out
       clear HA
       simp only [impl_RefineAt.l1] at H
       replace H := il_ H
       rcases H with ⟨c68b0, H⟩ | ⟨c68b0, H⟩
       ·replace H := imn_ H
        obtain ⟨c69b0, H⟩ := H
        replace H := iln_ H
        obtain ⟨c70b0, H⟩ := H
        replace H := iln_ H
        obtain ⟨c71b0, H⟩ := H
        by_cases c72 : x17_5.length < 4398046511104
        ·rw [if_pos c72] at H
         have LMc72 := Aside0.mk c72
         clear c72
         obtain ⟨y469, hy469⟩ : ∃ y_ : List (S72), y_ = (x17_5 ++ [(⟨(⟨(rd_T31 t456 x92_5).f0, (rd_T31 t456 x92_5).f1, (rd_T31 t456 x92_5).f2⟩ : S31), rd l3 x92_5⟩ : S72)]) := ⟨_, rfl⟩
         replace H : (impl_RefineAt.l1 k5 a0 l3 y469 t456 (t456.length : Int) (wrap64 (x92_5 + 1)) a1_0 a1_1 a1_2 l1_3) = some (r1, r2, r3, r4, r5) := by first | (rw [hy469]; with_reducible exact H) | (have H2_ := (Option.bind_some _ _).symm.trans H; rw [hy469]; with_reducible exact H2_) | (have H2_ := (Option.bind_some _ _).symm.trans H; with_reducible exact H2_) | with_reducible exact H | (rw [hy469]; exact H) | exact H
         have Ny469 := Aside0.mk hy469
         clear hy469
         have H' := Aside0.mk H
         clear H
         have p466 : 0 ≤ (x92_5 : Int) := od_
         have q466 : x92_5 < (t456.length : Int) := od_
         obtain ⟨ad466, e466, hx466_0, hx466_1, hx466_2⟩ := at_T31 (Kd.R_reads' HO_90.out).2.2 x92_5 p466 q466
         cases e466
         replace p466 := eq_true p466
         replace q466 := eq_true q466
         try go_wp2_with (first | ((refine gd_ 19 ?_); (try (refine gate_guard (by rfl) ?_; dsimp only)); refine bx_ 19 #[.int .i64 0, .int .i64 0, .int .i64 0] 31 ?_; intro gb467 hg w73 BK467 hb; have GW467 := bs_ HB hg; have NB448_467 := bm_ BK448 hg; have NB467_448 := bn_ BK448 hg; have NB449_467 := bm_ BK449 hg; have NB467_449 := bn_ BK449 hg; have NB450_467 := bm_ BK450 hg; have NB467_450 := bn_ BK450 hg; replace HO_17 := rb_ HO_17 hb; replace HO_90 := Aside0.mk (Kd.R_below (Kd.R_elderB (ra_ HO_90.out) gb467 (Nat.le_of_eq hg.symm)) hb); replace BK448 := bb_ BK448 hb; replace BK449 := bb_ BK449 hb; replace BK450 := bb_ BK450 hb; replace HB := bt_ HB hb; clear hb hg; have hnb74 := NB467_448.out; have hnc74 := NB448_467.out; have hnb75 := NB467_449.out; have hnc75 := NB449_467.out; have hnb76 := NB467_450.out; have hnc76 := NB450_467.out; obtain ⟨hcz77_0, hcz77_1, hcz77_2, hfz77_0, hfz77_1, hfz77_2⟩ := ch3_ BK467))
         have n0_ : Aside0 (Kd.R k72 72 (((w73.setCell ⟨gb467, 0, none⟩ (.int .i64 ((rd_T31 t456 x92_5).f0))).setCell ⟨gb467, 1, none⟩ (.int .i64 ((rd_T31 t456 x92_5).f1))).setCell ⟨gb467, 2, none⟩ (.int .i64 ((rd_T31 t456 x92_5).f2))) w.heap.size (fun _ => True) u17 x17_5) := ⟨by (with_reducible repeat (first | apply Kd.R_alloc | apply Kd.R_drewN | apply Kd.R_drew)); exact Kd.R_mono (Kd.R_far (p := ⟨gb467, 2, none⟩) (Kd.R_far (p := ⟨gb467, 1, none⟩) (Kd.R_far (p := ⟨gb467, 0, none⟩) (Kd.R_types HO_17.out BK467.out (by decide)) (fun _ hk => hk.2) (.int .i64 ((rd_T31 t456 x92_5).f0))) (fun _ hk => hk.2) (.int .i64 ((rd_T31 t456 x92_5).f1))) (fun _ hk => hk.2) (.int .i64 ((rd_T31 t456 x92_5).f2))) (fun _ hk => trivial)⟩
         have n1_ : Aside0 (Kd.R k31 31 (((w73.setCell ⟨gb467, 0, none⟩ (.int .i64 ((rd_T31 t456 x92_5).f0))).setCell ⟨gb467, 1, none⟩ (.int .i64 ((rd_T31 t456 x92_5).f1))).setCell ⟨gb467, 2, none⟩ (.int .i64 ((rd_T31 t456 x92_5).f2))) w.heap.size (fun k_ => k_ ≠ gb449 ∧ k_ ≠ gb467) (.slice (some ad466) t456.length co67) t456) := ⟨by (with_reducible repeat (first | apply Kd.R_alloc | apply Kd.R_drewN | apply Kd.R_drew)); exact Kd.R_mono (Kd.R_far (p := ⟨gb467, 2, none⟩) (Kd.R_far (p := ⟨gb467, 1, none⟩) (Kd.R_far (p := ⟨gb467, 0, none⟩) (Kd.R_mono HO_90.out (fun k_ hk => (⟨hk, hk.2⟩ : _ ∧ k_ ≠ gb467))) (fun _ hk => hk.2) (.int .i64 ((rd_T31 t456 x92_5).f0))) (fun _ hk => hk.2) (.int .i64 ((rd_T31 t456 x92_5).f1))) (fun _ hk => hk.2) (.int .i64 ((rd_T31 t456 x92_5).f2))) (fun _ hk => ⟨hk.1.1, hk.1.2⟩)⟩
         have n2_ : Aside0 ((((w73.setCell ⟨gb467, 0, none⟩ (.int .i64 ((rd_T31 t456 x92_5).f0))).setCell ⟨gb467, 1, none⟩ (.int .i64 ((rd_T31 t456 x92_5).f1))).setCell ⟨gb467, 2, none⟩ (.int .i64 ((rd_T31 t456 x92_5).f2))).heap[gb448]? = some (.cells #[.int .i64 a1_0, .int .i64 a1_1, .int .i64 a1_2, .slice A1_3 l1_3.length c1_3] 34 (0, 0))) := fl_ BK448 NB448_467
         have n3_ : Aside0 ((((w73.setCell ⟨gb467, 0, none⟩ (.int .i64 ((rd_T31 t456 x92_5).f0))).setCell ⟨gb467, 1, none⟩ (.int .i64 ((rd_T31 t456 x92_5).f1))).setCell ⟨gb467, 2, none⟩ (.int .i64 ((rd_T31 t456 x92_5).f2))).heap[gb449]? = some (.cells #[.int .i64 a2_0, .int .i64 a2_1, .int .i64 a2_2] 31 (0, 0))) := fl_ BK449 NB449_467
         have n4_ : Aside0 ((((w73.setCell ⟨gb467, 0, none⟩ (.int .i64 ((rd_T31 t456 x92_5).f0))).setCell ⟨gb467, 1, none⟩ (.int .i64 ((rd_T31 t456 x92_5).f1))).setCell ⟨gb467, 2, none⟩ (.int .i64 ((rd_T31 t456 x92_5).f2))).heap[gb450]? = some (.cells #[.int .i64 0, .int .i64 0, .int .i64 0, .slice none 0 0] 34 (0, 0))) := fl_ BK450 NB450_467
         have n5_ : Aside0 ((((w73.setCell ⟨gb467, 0, none⟩ (.int .i64 ((rd_T31 t456 x92_5).f0))).setCell ⟨gb467, 1, none⟩ (.int .i64 ((rd_T31 t456 x92_5).f1))).setCell ⟨gb467, 2, none⟩ (.int .i64 ((rd_T31 t456 x92_5).f2))).heap[gb467]? = some (.cells #[.int .i64 ((rd_T31 t456 x92_5).f0), .int .i64 ((rd_T31 t456 x92_5).f1), .int .i64 ((rd_T31 t456 x92_5).f2)] 31 (0, 0))) := bp_ BK467
         have n6_ : Aside0 (Below w.heap.size w (((w73.setCell ⟨gb467, 0, none⟩ (.int .i64 ((rd_T31 t456 x92_5).f0))).setCell ⟨gb467, 1, none⟩ (.int .i64 ((rd_T31 t456 x92_5).f1))).setCell ⟨gb467, 2, none⟩ (.int .i64 ((rd_T31 t456 x92_5).f2)))) := bw_ HB
         (try clear HO_17)
         (try clear HO_90)
         (try clear BK448)
         (try clear BK449)
         (try clear BK450)
         (try clear BK467)
         (try clear HB)
         generalize (((w73.setCell ⟨gb467, 0, none⟩ (.int .i64 ((rd_T31 t456 x92_5).f0))).setCell ⟨gb467, 1, none⟩ (.int .i64 ((rd_T31 t456 x92_5).f1))).setCell ⟨gb467, 2, none⟩ (.int .i64 ((rd_T31 t456 x92_5).f2))) = w78 at n0_ n1_ n2_ n3_ n4_ n5_ n6_ ⊢
         have HO_17 := n0_
         have HO_90 := n1_
         have BK448 := n2_
         have BK449 := n3_
         have BK450 := n4_
         have BK467 := n5_
         have HB := n6_
         clear n0_ n1_ n2_ n3_ n4_ n5_ n6_
         replace HO_17 := Aside0.mk (Kd.R_drew HO_17.out)
         replace HO_90 := Aside0.mk (Kd.R_drew HO_90.out)
         replace BK448 := bd_ BK448
         replace BK449 := bd_ BK449
         replace BK450 := bd_ BK450
         replace BK467 := bd_ BK467
         replace HB := be_ HB
         have p468 : 0 ≤ (x92_5 : Int) := od_
         have q468 : x92_5 < (l3.length : Int) := od_
         obtain ⟨ad468, e468, hx468_0⟩ := Kd.at_int HR3.out x92_5 p468 q468
         have hw468_0 := hx468_0
         cases e468
         replace hx468_0 := clTr HB.out hx468_0
         replace p468 := eq_true p468
         replace q468 := eq_true q468
         refine start_ (n := 10) (S := fun w' => w'.cell? ⟨gb467, 0, none⟩ = some (.int .i64 ((rd_T31 t456 x92_5).f0)) ∧ w'.cell? ⟨gb467, 1, none⟩ = some (.int .i64 ((rd_T31 t456 x92_5).f1)) ∧ w'.cell? ⟨gb467, 2, none⟩ = some (.int .i64 ((rd_T31 t456 x92_5).f2)) ∧ w'.cell? (ad468.add (x92_5).toNat) = some (.int .i64 (rd l3 x92_5))) (ds := []) (bv_ 10 0) (by kernel_rfl) rfl rfl ⟨cz_ BK467 0, cz_ BK467 1, cz_ BK467 2, (clTr HB.out hw468_0 :)⟩ (fun hHeld => ?_); refine with_tabW impl_RefineAt.tab21 impl_RefineAt.bits21 (fun HT_ HW_ => ?_)
         generalize w78.drew = w79 at HO_17 HO_90 BK448 BK449 BK450 BK467 HB hx468_0 hHeld ⊢
         refine px_ HT_ 0 97 1 ?_
         refine px_ HT_ 2 99 5 ?_
         refine px_ HT_ 3 100 13 ?_
         refine px_ HT_ 4 101 29 ?_
         refine ta_ HT_ HW_ 1 (some 98) (bv_ 10 31) hHeld ?_ (hy := by rintro w' ⟨s0, s1, s2, s3⟩; go_simp; with_reducible rfl)
         refine ta_ HT_ HW_ 5 (some 102) (bv_ 10 63) hHeld ?_ (hy := by rintro w' ⟨s0, s1, s2, s3⟩; go_simp; with_reducible rfl)
         refine px_ HT_ 6 103 127 ?_
         refine on_ HT_ 7 (some 104) (bv_ 10 255) (fun K hK => ?_)
         refine value_ (w1 := ?_) (v := ?_) (by rfl) rfl ?_ ?_
         rotate_left 2
         ·go_simp
          constructor
          ·rfl
          rfl
         refine hK.out _ _ ⟨(blk_cell (blk_alloc BK467.out _) 0).trans rfl, (blk_cell (blk_alloc BK467.out _) 1).trans rfl, (blk_cell (blk_alloc BK467.out _) 2).trans rfl, (World.cell?_alloc_lt _ _ _ (World.block_lt_of_cell? _ _ ((clTr HB.out hw468_0 :)))).trans ((clTr HB.out hw468_0 :))⟩ (fun hHeld => ?_)
         clear hK K
         refine nm_ (some 104) ?_
         refine on_ HT_ 8 (some 105) (bv_ 10 511) (fun K hK => ?_)
         refine Kd.R_append_step k72 (w0 := w) w.heap.size (by rfl) (.tmp 97) (.tmp 104) 32 72 (.agg #[(.int .i64 0), (.int .i64 0), (.int .i64 0), (.int .i64 0)]) 32 rfl Try.underlying32 info72 rfl (by decide) (by omega) u17 x17_5 (⟨(⟨(rd_T31 t456 x92_5).f0, (rd_T31 t456 x92_5).f1, (rd_T31 t456 x92_5).f2⟩ : S31), rd l3 x92_5⟩ : S72) [.int .i64 ((rd_T31 t456 x92_5).f0), .int .i64 ((rd_T31 t456 x92_5).f1), .int .i64 ((rd_T31 t456 x92_5).f2), .int .i64 (rd l3 x92_5)] (fun _ => True) (fun _ => False) rfl rfl ?aP (fun _ hk => hk.elim) ?aF ?aO ?aB ?aS ?aL ?_
         (case aP => exact k72_mkM _ _ _ (⟨(⟨(rd_T31 t456 x92_5).f0, (rd_T31 t456 x92_5).f1, (rd_T31 t456 x92_5).f2⟩ : S31), rd l3 x92_5⟩ : S72))
         (case aB => exact (bw_ HB).out)
         (case aF => exact (fun _ _ => trivial))
         (case aO => exact (ra_ HO_17.out))
         (case aS => exact (below_size (bw_ HB).out))
         (case aL => have := LMc72.out; omega)
         intro v470 w80 ho hb hg hat
         rw [← Ny469.out] at ho
         have n0_ := Aside0.mk (Kd.R_over' (ra_ HO_90.out) (Kd.R_typed (ra_ HO_17.out)) (by decide) hg)
         have n1_ := Aside0.mk (blk_grown (g := gb448) (o := .cells #[.int .i64 a1_0, .int .i64 a1_1, .int .i64 a1_2, .slice A1_3 l1_3.length c1_3] 34 (0, 0)) (bl_ BK448).out hg (Kd.R_ne HO_17.out BK448.out (by decide)))
         have n2_ := Aside0.mk (blk_grown (g := gb449) (o := .cells #[.int .i64 a2_0, .int .i64 a2_1, .int .i64 a2_2] 31 (0, 0)) (bl_ BK449).out hg (Kd.R_ne HO_17.out BK449.out (by decide)))
         have n3_ := Aside0.mk (blk_grown (g := gb450) (o := .cells #[.int .i64 0, .int .i64 0, .int .i64 0, .slice none 0 0] 34 (0, 0)) (bl_ BK450).out hg (Kd.R_ne HO_17.out BK450.out (by decide)))
         have n4_ := Aside0.mk (blk_grown (g := gb467) (o := .cells #[.int .i64 ((rd_T31 t456 x92_5).f0), .int .i64 ((rd_T31 t456 x92_5).f1), .int .i64 ((rd_T31 t456 x92_5).f2)] 31 (0, 0)) (bl_ BK467).out hg (Kd.R_ne HO_17.out BK467.out (by decide)))
         have n5_ := Aside0.mk (hb)
         have n6_ := Aside0.mk (ho)
         clear HO_90
         clear BK448
         clear BK449
         clear BK450
         clear BK467
         clear HB
         clear HO_17
         have HO_90 := n0_
         have BK448 := n1_
         have BK449 := n2_
         have BK450 := n3_
         have BK467 := n4_
         have HB := n5_
         have HO471 := n6_
         clear n0_ n1_ n2_ n3_ n4_ n5_ n6_
         clear ho hb hg hat
         refine hK.out _ _ ⟨cz_ BK467 0, cz_ BK467 1, cz_ BK467 2, (clTr HB.out hw468_0 :)⟩ (fun hHeld => ?_)
         clear hK K
         refine nm_ (some 105) ?_
         refine px_ HT_ 9 17 1023 ?_
         refine done_ (done_of HT_.out (by kernel_rfl)) ?_
         try go_wp2
         go_roundg k5
         case measure => have := HJ6.out; have := HK2.out; have := HJ32.out; have := HJ44.out; have := HK5.out; omega
         case rel => exact ⟨(y469), (wrap64 (x92_5 + 1)), en_, H', ⟨by have := HJ6.out; have := HK2.out; have := HJ32.out; have := HJ44.out; have := HK5.out; omega⟩, ⟨by (with_reducible repeat (first | apply Kd.R_alloc | apply Kd.R_drewN | apply Kd.R_drew)); exact HO471.out⟩, ⟨by (with_reducible repeat (first | apply Kd.R_alloc | apply Kd.R_drewN | apply Kd.R_drew)); exact Kd.R_mono HO_90.out (fun _ hk => hk.1)⟩, bl_ BK448, bl_ BK449, bl_ BK450, bw_ HB⟩
        rw [if_neg c72] at H
        exact absurd H (by simp)
       replace H := oc_ H
       obtain ⟨⟨t472, t473, t474, t475⟩, A81, H⟩ := H
       simp only [Option.some.injEq, Prod.mk.injEq] at H
       obtain ⟨rfl, rfl, rfl, rfl, rfl⟩ := H
       have hnb82 := NB448_449.out
       have hnc82 := NB449_448.out
       have hnb83 := NB448_450.out
       have hnc83 := NB450_448.out
       obtain ⟨hcz84_0, hcz84_1, hcz84_2, hcz84_3, hfz84_0, hfz84_1, hfz84_2, hfz84_3⟩ := ch4_ BK448
       obtain ⟨Ao85, co85, eo85⟩ := Kd.R_slice HO_17.out
       subst eo85
       go_wp2_with (first | ((refine gc_ 52 ?_); refine ge_ 111 Try.func52 #[.int .i64 a0, .agg #[.int .i64 a1_0, .int .i64 a1_1, .int .i64 a1_2], .slice Ao85 x17_5.length co85] ?_; (with_reducible refine (impl_sorted.calls k5 a0 a1_0 a1_1 a1_2 (fun k_ => some k_ = (.slice Ao85 x17_5.length co85 : Value).ownBlock) (.slice Ao85 x17_5.length co85) x17_5 t472 t473 t474 t475 w _ ?side1 ?side2 A81.out).mono ?_); (case side1 => repeat (first | (with_reducible first | exact HB.out | apply below_alloc | apply pw_below_drewN | apply below_drew1 | refine below_set ?_ GW448.out | refine below_set ?_ GW449.out | refine below_set ?_ GW450.out) | exact HB.out)); (case side2 => exact Kd.R_tight rfl HO_17.out); rintro e w86 ⟨v476, rfl, ho0, hb, hkp⟩; refine ⟨_, rfl, ?_⟩; have n0_ := Aside0.mk (Kd.R_mono (ok' := fun k_ => k_ ≠ gb449) (Kd.R_keptB ((Kd.R_apart' HO_90.out (Kd.R_typed HO_17.out) (by decide))) hkp (fun k_ hk_ hs_ => (hk_.2) hs_)) (fun k_ hk_ => hk_.1.1)); have n1_ := Aside0.mk (blk_kept (bl_ BK448).out hkp (fun hs_ => (fun e_ => (Kd.R_ne HO_17.out BK448.out (by decide)) e_) hs_)); have n2_ := Aside0.mk (blk_kept (bl_ BK449).out hkp (fun hs_ => (fun e_ => (Kd.R_ne HO_17.out BK449.out (by decide)) e_) hs_)); have n3_ := Aside0.mk (blk_kept (bl_ BK450).out hkp (fun hs_ => (fun e_ => (Kd.R_ne HO_17.out BK450.out (by decide)) e_) hs_)); have n4_ := Aside0.mk (Kd.R_mono (ok' := fun k_ => True) ho0 (fun k_ hk_ => trivial)); have n5_ := Aside0.mk (hb); clear HO_90; clear BK448; clear BK449; clear BK450; clear HB; clear HO_17; have HO_90 := n0_; have BK448 := n1_; have BK449 := n2_; have BK450 := n3_; have HO477 := n4_; have HB := n5_; clear n0_ n1_ n2_ n3_ n4_ n5_; (try clear hb); (try clear hkp); (try clear ho0); have hnb87 := NB450_449.out; have hnc87 := NB449_450.out; obtain ⟨hcz88_0, hcz88_1, hcz88_2, hcz88_3, hfz88_0, hfz88_1, hfz88_2, hfz88_3⟩ := ch4_ BK450; obtain ⟨Ao89, co89, eo89⟩ := Kd.R_slice HO477.out; subst eo89))
       refine bodyPost_ret (results_ct rfl _ _ gb450 34 #[.int .i64 t472, .int .i64 t473, .int .i64 t474, .slice Ao89 t475.length co89] (0, 0) _ rfl (bp_ BK450).out Try.underlying34 rfl (by kernel_rfl)) rfl ?_
       exact ⟨_, es_, by (with_reducible repeat (first | apply Kd.R_alloc | apply Kd.R_drewN | apply Kd.R_drew)); exact Kd.R_mono (Kd.R_far (p := ⟨gb450, 3, none⟩) (Kd.R_far (p := ⟨gb450, 2, none⟩) (Kd.R_far (p := ⟨gb450, 1, none⟩) (Kd.R_far (p := ⟨gb450, 0, none⟩) (Kd.R_types HO477.out BK450.out (by decide)) (fun _ hk => hk.2) (.int .i64 t472)) (fun _ hk => hk.2) (.int .i64 t473)) (fun _ hk => hk.2) (.int .i64 t474)) (fun _ hk => hk.2) (.slice Ao89 t475.length co89)) (fun _ hk => trivial), (bw_ HB).out⟩
 simp only [Option.some.injEq, Prod.mk.injEq] at H
 obtain ⟨rfl, rfl, rfl, rfl, rfl⟩ := H
 go_enter Try.func22, Try.ntmps22
 go_wp2_with (first | ((refine gd_ 5 ?_); (try (refine gate_guard (by rfl) ?_; dsimp only)); refine by_ 5 #[.int .i64 a1_0, .int .i64 a1_1, .int .i64 a1_2, .slice A1_3 l1_3.length c1_3] 34 HB ?_; intro gb448 hg w90 BK448 hb GW448 HB_; replace HB := HB_; clear hb hg) | ((refine gd_ 6 ?_); (try (refine gate_guard (by rfl) ?_; dsimp only)); refine by_ 6 #[.int .i64 a2_0, .int .i64 a2_1, .int .i64 a2_2] 31 HB ?_; intro gb449 hg w91 BK449 hb GW449 HB_; have NB448_449 := bm_ BK448 hg; have NB449_448 := bn_ BK448 hg; replace BK448 := bb_ BK448 hb; replace HB := HB_; clear hb hg) | ((refine gd_ 8 ?_); (try (refine gate_guard (by rfl) ?_; dsimp only)); refine by_ 8 #[.int .i64 0, .int .i64 0, .int .i64 0, .slice none 0 0] 34 HB ?_; intro gb450 hg w92 BK450 hb GW450 HB_; have NB448_450 := bm_ BK448 hg; have NB450_448 := bn_ BK448 hg; have NB449_450 := bm_ BK449 hg; have NB450_449 := bn_ BK449 hg; replace BK448 := bb_ BK448 hb; replace BK449 := bb_ BK449 hb; replace HB := HB_; clear hb hg; have hnb93 := NB448_449.out; have hnc93 := NB449_448.out; have hnb94 := NB448_450.out; have hnc94 := NB450_448.out; obtain ⟨hcz95_0, hcz95_1, hcz95_2, hcz95_3, hfz95_0, hfz95_1, hfz95_2, hfz95_3⟩ := ch4_ BK448; have hnb96 := NB449_450.out; have hnc96 := NB450_449.out; obtain ⟨hcz97_0, hcz97_1, hcz97_2, hfz97_0, hfz97_1, hfz97_2⟩ := ch3_ BK449) | ((refine gc_ 44 ?_); refine ge_ 23 Try.func44 #[.int .i64 a0, .agg #[.int .i64 a1_0, .int .i64 a1_1, .int .i64 a1_2, .slice A1_3 l1_3.length c1_3], .agg #[.int .i64 a2_0, .int .i64 a2_1, .int .i64 a2_2]] ?_; (with_reducible refine (impl_measureCode.calls k a0 a1_0 a1_1 a1_2 _ _ l1_3 a2_0 a2_1 a2_2 t451 _ ?side1 ?side2 A5.out).mono ?_); (case side1 => exact ca_ (Kd.C_below HR1_3.out HB.out)); (case side2 => exact HC1_3.out); rintro e w98 ⟨rfl, hb⟩; refine ⟨_, rfl, ?_⟩; replace BK448 := bb_ BK448 hb; replace BK449 := bb_ BK449 hb; replace BK450 := bb_ BK450 hb; replace HB := bt_ HB hb; (try clear hb); obtain ⟨hcz99_0, hcz99_1, hcz99_2, hcz99_3, hfz99_0, hfz99_1, hfz99_2, hfz99_3⟩ := ch4_ BK450))
 refine bodyPost_ret (results_ct rfl _ _ gb450 34 #[.int .i64 0, .int .i64 0, .int .i64 0, .slice none 0 0] (0, 0) _ rfl (bp_ BK450).out Try.underlying34 rfl (by kernel_rfl)) rfl ?_
 exact ⟨_, es_, by first | exact Kd.R_nil _ _ _ _ _ | exact Kd.N_nil _ _ _ _ _ | exact Kd.V_nil _ _ _ _ _ | exact Kd.Q_nil _ _ _ _ _ | exact Kd.S_nil _ _ _ _ _, (bw_ HB).out⟩
end Go.Proofs.Ytdfcoebadjhjlaa.QH
