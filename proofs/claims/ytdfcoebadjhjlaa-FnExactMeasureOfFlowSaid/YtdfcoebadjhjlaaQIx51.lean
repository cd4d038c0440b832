import Derived.Test.YtdfcoebadjhjlaaQIx5
import Derived.Test.YtdfcoebadjhjlaaQIx40
import Derived.Test.YtdfcoebadjhjlaaQIx44
import Derived.Test.YtdfcoebadjhjlaaQIx45
namespace Go.Proofs.Ytdfcoebadjhjlaa.QI
set_option maxHeartbeats 8000000
set_option maxRecDepth 100000
open Go.RowKit Go.Proofs.YtdfcoebadjhjlaaW.PrintWords Go.Proofs.YtdfcoebadjhjlaaW.PrintLast Go.Proofs.YtdfcoebadjhjlaaW.PrintMore
attribute [local go_sem] isSome_setCell max2_int min2_int max_two min_two max_three min_three max_four min_four
set_option linter.unusedVariables false
set_option linter.unusedSimpArgs false

/-! ### impl_IsMeasure: function 33 -/
mutual
def impl_IsMeasure.j0 : Nat → Bool → Int → Int → Int → List (S72) → Option (Bool)
 | 0, _, _, _, _, _ => none
 | k + 1, x20, x368000, x368001, x368002, x368003 => if x20 = true then (some false) else (impl_IsMeasure.l0 k x368003 (x368003.length : Int) 0)
def impl_IsMeasure.l0 : Nat → List (S72) → Int → Int → Option (Bool)
 | 0, _, _, _ => none
 | k + 1, x22, x23, x24 => if x24 < x23 then (if 0 ≤ x24 then (if x24 < (x22.length : Int) then ((impl_isWeight.f k (([(rd_T72 x22 x24).f1] : List Int))).bind fun t375 => (if t375 = true then (impl_IsMeasure.l0 k x22 x23 (wrap64 (x24 + 1))) else (some false))) else (none)) else (none)) else (some true)
end
def impl_IsMeasure.f (k : Nat) (a0 a1_0 a1_1 a1_2 : Int) (l1_3 : List (S72)) : Option (Bool) := (impl_IsBall.f k a0 a1_0 a1_1 a1_2).bind fun t368 => (if t368 = true then ((impl_isPartition.f k a0 a1_0 a1_1 a1_2 l1_3).bind fun t369 => (impl_IsMeasure.j0 k (!t369) a1_0 a1_1 a1_2 l1_3)) else (impl_IsMeasure.j0 k true a1_0 a1_1 a1_2 l1_3))
theorem impl_IsMeasure.calls (k : Nat) (a0 a1_0 a1_1 a1_2 : Int) (A1_3 : Option Addr) (c1_3 : Nat) (l1_3 : List (S72)) (r : Bool) (w : World) (hr1_3 : Kd.C k72 w A1_3 l1_3.length l1_3) (hc1_3 : l1_3.length ≤ c1_3) (h : impl_IsMeasure.f k a0 a1_0 a1_1 a1_2 l1_3 = some r) :
  Calls Try.prog 33 #[.int .i64 a0, .agg #[.int .i64 a1_0, .int .i64 a1_1, .int .i64 a1_2, .slice A1_3 l1_3.length c1_3]] w fun e w' => e = .returned (.bool r) ∧ Below w.heap.size w w' := by
 have hu34 := Try.underlying34
 have hu31 := Try.underlying31
 have hu72 := Try.underlying72
 have HR1_3 := Aside0.mk hr1_3
 have HC1_3 := Aside0.mk hc1_3
 clear hr1_3 hc1_3
 have HB := Aside0.mk (Below.refl w.heap.size w)
 unfold impl_IsMeasure.f at h
 have H := h
 clear h
 have HC3 := Aside0.mk H
 clear H
 go_enter Try.func33, Try.ntmps33
 go_upto_region 1 with (first | ((refine gd_ 3 ?_); refine by_ 3 #[.int .i64 a1_0, .int .i64 a1_1, .int .i64 a1_2, .slice A1_3 l1_3.length c1_3] 34 HB ?_; intro gb367 hg w4 BK367 hb GW367 HB_; replace HB := HB_; clear hb hg))
 (try simp only [Act.put, lstS, lstZ, lstC])
 go_cut [20] (fun v20 wc => ∃ (kq : Nat) (x20_2 : Bool), v20 = .bool x20_2 ∧ Aside0 (impl_IsMeasure.j0 kq x20_2 a1_0 a1_1 a1_2 l1_3 = some r) ∧ Aside0 (kq ≤ k) ∧ Aside0 (wc.heap[gb367]? = some (.cells #[.int .i64 a1_0, .int .i64 a1_1, .int .i64 a1_2, (.slice A1_3 l1_3.length c1_3)] 34 (0, 0))) ∧ Aside0 (Below w.heap.size w wc))
 case first =>
  have H := HC3.out
  clear HC3
  replace H := oc_ H
  obtain ⟨t368, A5, H⟩ := H
  replace H := ib_ H
  rcases H with ⟨rfl, H⟩ | ⟨rfl, H⟩
  ·replace H := oc_ H
   obtain ⟨t369, A7, H⟩ := H
   have H' := Aside0.mk H
   clear H
   obtain ⟨hcz8_0, hcz8_1, hcz8_2, hcz8_3, hfz8_0, hfz8_1, hfz8_2, hfz8_3⟩ := ch4_ BK367
   go_wp2_with (first | ((refine gc_ 63 ?_); refine ge_ 10 Try.func63 #[.int .i64 a0, .agg #[.int .i64 a1_0, .int .i64 a1_1, .int .i64 a1_2]] ?_; (with_reducible refine (impl_IsBall.calls k a0 a1_0 a1_1 a1_2 true _ A5.out).mono ?_); rintro e w9 ⟨rfl, hb⟩; refine ⟨_, rfl, ?_⟩; replace BK367 := bb_ BK367 hb; replace HB := bt_ HB hb; (try clear hb); obtain ⟨hcz10_0, hcz10_1, hcz10_2, hcz10_3, hfz10_0, hfz10_1, hfz10_2, hfz10_3⟩ := ch4_ BK367) | (go_at_call 71; (with_reducible refine (impl_isPartition.calls k a0 a1_0 a1_1 a1_2 _ _ l1_3 t369 _ ?side1 ?side2 A7.out).mono ?_); (case side1 => exact ca_ (Kd.C_below HR1_3.out HB.out)); (case side2 => exact HC1_3.out); rintro e w11 ⟨rfl, hb⟩; replace BK367 := bb_ BK367 hb; replace HB := bt_ HB hb; (try clear hb)))
   go_meet
   case rel => exact ⟨_, (!t369), en_, H', ⟨by first | omega | exact Nat.le_refl _⟩, bl_ BK367, bw_ HB⟩
  have H' := Aside0.mk H
  clear H
  obtain ⟨hcz12_0, hcz12_1, hcz12_2, hcz12_3, hfz12_0, hfz12_1, hfz12_2, hfz12_3⟩ := ch4_ BK367
  go_wp2_with (first | ((refine gc_ 63 ?_); refine ge_ 10 Try.func63 #[.int .i64 a0, .agg #[.int .i64 a1_0, .int .i64 a1_1, .int .i64 a1_2]] ?_; (with_reducible refine (impl_IsBall.calls k a0 a1_0 a1_1 a1_2 false _ A5.out).mono ?_); rintro e w13 ⟨rfl, hb⟩; refine ⟨_, rfl, ?_⟩; replace BK367 := bb_ BK367 hb; replace HB := bt_ HB hb; (try clear hb)))
  go_meet
  case rel => exact ⟨_, (true), en_, H', ⟨by first | omega | exact Nat.le_refl _⟩, bl_ BK367, bw_ HB⟩
 clear HC3
 try clear hcz10_0 hcz10_1 hcz10_2 hcz10_3
 try clear hcz12_0 hcz12_1 hcz12_2 hcz12_3
 try clear hcz8_0 hcz8_1 hcz8_2 hcz8_3
 try clear hfz10_0 hfz10_1 hfz10_2 hfz10_3
 try clear hfz12_0 hfz12_1 hfz12_2 hfz12_3
 try clear hfz8_0 hfz8_1 hfz8_2 hfz8_3
 obtain ⟨kq, x20_2, rfl, HA, HJ2, BK367, HB⟩ := hcut
 cases kq with
 | zero => exact absurd HA.out (by simp [impl_IsMeasure.j0])
 | succ kj2 =>
  have H := HA.out
  clear HA
  simp only [impl_IsMeasure.j0] at H
  replace H := ib_ H
  rcases H with ⟨rfl, H⟩ | ⟨rfl, H⟩
  ·obtain rfl := si_ H
   go_wp2
   go_ret
   exact ⟨es_, (bw_ HB).out⟩
  have H' := Aside0.mk H
  clear H
  obtain ⟨hcz15_0, hcz15_1, hcz15_2, hcz15_3, hfz15_0, hfz15_1, hfz15_2, hfz15_3⟩ := ch4_ BK367
  go_wp2
  go_loopg [24] kj2 (fun kq v24 w' => ∃ (x24_2 : Int), v24 = .int .i64 x24_2 ∧ Aside0 (impl_IsMeasure.l0 kq l1_3 (l1_3.length : Int) x24_2 = some r) ∧ Aside0 (kq ≤ kj2) ∧ Aside0 (w'.heap[gb367]? = some (.cells #[.int .i64 a1_0, .int .i64 a1_1, .int .i64 a1_2, (.slice A1_3 l1_3.length c1_3)] 34 (0, 0))) ∧ Aside0 (Below w.heap.size w w'))
  case atStart => exact ⟨(0), en_, H', ⟨Nat.le_refl _⟩, bl_ BK367, bw_ HB⟩
  clear H'
  try clear hcz10_0 hcz10_1 hcz10_2 hcz10_3
  try clear hcz12_0 hcz12_1 hcz12_2 hcz12_3
  try clear hcz15_0 hcz15_1 hcz15_2 hcz15_3
  try clear hcz8_0 hcz8_1 hcz8_2 hcz8_3
  try clear hfz10_0 hfz10_1 hfz10_2 hfz10_3
  try clear hfz12_0 hfz12_1 hfz12_2 hfz12_3
  try clear hfz15_0 hfz15_1 hfz15_2 hfz15_3
  try clear hfz8_0 hfz8_1 hfz8_2 hfz8_3
  obtain ⟨x24_2, rfl, HA, HK2, BK367, HB⟩ := hrel
  cases gk with
  | zero => exact absurd HA.out (by simp [impl_IsMeasure.l0])
  | succ k2 =>
   have H := HA.out
   clear HA
   simp only [impl_IsMeasure.l0] at H
   replace H := il_ H
   rcases H with ⟨c16b0, H⟩ | ⟨c16b0, H⟩
   ·replace H := imn_ H
    obtain ⟨c17b0, H⟩ := H
    replace H := iln_ H
    obtain ⟨c18b0, H⟩ := H
    obtain ⟨y372, hy372⟩ : ∃ y_ : List Int, y_ = (([(rd_T72 l1_3 x24_2).f1] : List Int)) := ⟨_, rfl⟩
    replace H : ((impl_isWeight.f k2 y372).bind fun t375 => (if t375 = true then (impl_IsMeasure.l0 k2 l1_3 (l1_3.length : Int) (wrap64 (x24_2 + 1))) else (some false))) = some r := by first | (rw [hy372]; with_reducible exact H) | (have H2_ := (Option.bind_some _ _).symm.trans H; rw [hy372]; with_reducible exact H2_) | (have H2_ := (Option.bind_some _ _).symm.trans H; with_reducible exact H2_) | with_reducible exact H | (rw [hy372]; exact H) | exact H
    have Ny372 := Aside0.mk hy372
    clear hy372
    replace H := oc_ H
    obtain ⟨t375, A19, H⟩ := H
    replace H := ib_ H
    rcases H with ⟨rfl, H⟩ | ⟨rfl, H⟩
    ·have H' := Aside0.mk H
     clear H
     have p370 : 0 ≤ (x24_2 : Int) := od_
     have q370 : x24_2 < (l1_3.length : Int) := od_
     obtain ⟨ad370, e370, hx370_0, hx370_1, hx370_2, hx370_3⟩ := at_T72 HR1_3.out x24_2 p370 q370
     cases e370
     replace hx370_0 := clTr HB.out hx370_0
     replace hx370_1 := clTr HB.out hx370_1
     replace hx370_2 := clTr HB.out hx370_2
     replace hx370_3 := clTr HB.out hx370_3
     replace p370 := eq_true p370
     replace q370 := eq_true q370
     go_wp2_with (first | ((refine gd_ 6 ?_); refine by_ 6 #[.int .i64 0, .int .i64 0, .int .i64 0, .int .i64 0] 72 HB ?_; intro gb371 hg w21 BK371 hb GW371 HB_; have NB367_371 := bm_ BK367 hg; have NB371_367 := bn_ BK367 hg; replace BK367 := bb_ BK367 hb; replace HB := HB_; clear hb hg; have hnb22 := NB371_367.out; have hnc22 := NB367_371.out; obtain ⟨hcz23_0, hcz23_1, hcz23_2, hcz23_3, hfz23_0, hfz23_1, hfz23_2, hfz23_3⟩ := ch4_ BK371) | ((refine gd_ 30 ?_); refine Kd.R_lit (Kd.int .i64) _ 2 ?hg (N := 30) ?hd (xs := ([(rd_T72 l1_3 x24_2).f1] : List Int)) (inner := [.int .i64 ((rd_T72 l1_3 x24_2).f1)]) (ok := fun _ => True) (okp := fun _ => True) ?hr ?hp (fun _ hk => hk) trivial (Below.refl _ _) (Nat.le_refl _) (by simp) ?_; (case hd => rfl); (case hg => rfl); (case hr => first | (go_simp; done) | (go_simp; rfl)); (case hp => exact (Reps.one (show Kd.M (Kd.int .i64) _ _ _ ((rd_T72 l1_3 x24_2).f1) [.int .i64 ((rd_T72 l1_3 x24_2).f1)] from rfl) (Reps.none _ _))); intro v373 w24 ho25 hb hg_ hnew_; clear hg_ hnew_; (first | rw [← Ny372.out] at ho25 | (simp only [Int.reduceToNat] at ho25; rw [← Ny372.out] at ho25)); have HO374 := Aside0.mk (Kd.R_lower ho25 (below_size (bw_ HB).out)); replace BK367 := fb_ BK367 NB367_371 hb; replace BK371 := Aside0.mk (blk_below (g := gb371) (o := .cells #[.int .i64 ((rd_T72 l1_3 x24_2).f0.f0), .int .i64 ((rd_T72 l1_3 x24_2).f0.f1), .int .i64 ((rd_T72 l1_3 x24_2).f0.f2), .int .i64 ((rd_T72 l1_3 x24_2).f1)] 72 (0, 0)) (bp_ BK371).out hb); replace HB := bt_ HB hb; clear hb ho25; obtain ⟨Ao26, co26, eo26⟩ := Kd.R_slice HO374.out; subst eo26) | ((refine gc_ 56 ?_); refine ge_ 31 Try.func56 #[.slice Ao26 y372.length co26] ?_; (with_reducible refine (impl_isWeight.calls k2 _ _ y372 true _ ?side1 ?side2 A19.out).mono ?_); (case side1 => exact ca_ (Kd.R_reads' HO374.out).2.2); (case side2 => exact (Kd.R_reads' HO374.out).2.1); rintro e w' ⟨rfl, ⟨nd, rfl⟩⟩; refine ⟨_, rfl, ?_⟩))
     go_roundg k2
     case measure => have := HJ2.out; have := HK2.out; omega
     case rel => exact ⟨(wrap64 (x24_2 + 1)), en_, H', ⟨by have := HJ2.out; have := HK2.out; omega⟩, bl_ BK367, bw_ HB⟩
    obtain rfl := si_ H
    have p370 : 0 ≤ (x24_2 : Int) := od_
    have q370 : x24_2 < (l1_3.length : Int) := od_
    obtain ⟨ad370, e370, hx370_0, hx370_1, hx370_2, hx370_3⟩ := at_T72 HR1_3.out x24_2 p370 q370
    cases e370
    replace hx370_0 := clTr HB.out hx370_0
    replace hx370_1 := clTr HB.out hx370_1
    replace hx370_2 := clTr HB.out hx370_2
    replace hx370_3 := clTr HB.out hx370_3
    replace p370 := eq_true p370
    replace q370 := eq_true q370
    go_wp2_with (first | ((refine gd_ 6 ?_); refine by_ 6 #[.int .i64 0, .int .i64 0, .int .i64 0, .int .i64 0] 72 HB ?_; intro gb371 hg w27 BK371 hb GW371 HB_; have NB367_371 := bm_ BK367 hg; have NB371_367 := bn_ BK367 hg; replace BK367 := bb_ BK367 hb; replace HB := HB_; clear hb hg; have hnb28 := NB371_367.out; have hnc28 := NB367_371.out; obtain ⟨hcz29_0, hcz29_1, hcz29_2, hcz29_3, hfz29_0, hfz29_1, hfz29_2, hfz29_3⟩ := ch4_ BK371) | ((refine gd_ 30 ?_); refine Kd.R_lit (Kd.int .i64) _ 2 ?hg (N := 30) ?hd (xs := ([(rd_T72 l1_3 x24_2).f1] : List Int)) (inner := [.int .i64 ((rd_T72 l1_3 x24_2).f1)]) (ok := fun _ => True) (okp := fun _ => True) ?hr ?hp (fun _ hk => hk) trivial (Below.refl _ _) (Nat.le_refl _) (by simp) ?_; (case hd => rfl); (case hg => rfl); (case hr => first | (go_simp; done) | (go_simp; rfl)); (case hp => exact (Reps.one (show Kd.M (Kd.int .i64) _ _ _ ((rd_T72 l1_3 x24_2).f1) [.int .i64 ((rd_T72 l1_3 x24_2).f1)] from rfl) (Reps.none _ _))); intro v373 w30 ho31 hb hg_ hnew_; clear hg_ hnew_; (first | rw [← Ny372.out] at ho31 | (simp only [Int.reduceToNat] at ho31; rw [← Ny372.out] at ho31)); have HO374 := Aside0.mk (Kd.R_lower ho31 (below_size (bw_ HB).out)); replace BK367 := fb_ BK367 NB367_371 hb; replace BK371 := Aside0.mk (blk_below (g := gb371) (o := .cells #[.int .i64 ((rd_T72 l1_3 x24_2).f0.f0), .int .i64 ((rd_T72 l1_3 x24_2).f0.f1), .int .i64 ((rd_T72 l1_3 x24_2).f0.f2), .int .i64 ((rd_T72 l1_3 x24_2).f1)] 72 (0, 0)) (bp_ BK371).out hb); replace HB := bt_ HB hb; clear hb ho31; obtain ⟨Ao32, co32, eo32⟩ := Kd.R_slice HO374.out; subst eo32) | ((refine gc_ 56 ?_); refine ge_ 31 Try.func56 #[.slice Ao32 y372.length co32] ?_; (with_reducible refine (impl_isWeight.calls k2 _ _ y372 false _ ?side1 ?side2 A19.out).mono ?_); (case side1 => exact ca_ (Kd.R_reads' HO374.out).2.2); (case side2 => exact (Kd.R_reads' HO374.out).2.1); rintro e w' ⟨rfl, ⟨nd, rfl⟩⟩; refine ⟨_, rfl, ?_⟩))
    go_ret
    exact ⟨es_, (bw_ HB).out⟩
   obtain rfl := si_ H
   go_wp2
   go_ret
   exact ⟨es_, (bw_ HB).out⟩
/-! ### impl_total: function 47 -/
def impl_total.l0 : Nat → Int → Int → Bool → List (S72) → Int → Int → Int → Int → Int → Option (Int × Bool)
 | 0, _, _, _, _, _, _, _, _, _ => none
 | k + 1, x0, x8, x9, x13, x14, x15, x378000, x378001, x378002 => if x15 < x14 then (if 0 ≤ x15 then (if x15 < (x13.length : Int) then ((impl_holds.f k x0 x378000 x378001 x378002 ((rd_T72 x13 x15).f0.f0) ((rd_T72 x13 x15).f0.f1) ((rd_T72 x13 x15).f0.f2)).bind fun t380 => (if t380 = true then (if x9 = true then ((impl_isWeight.f k (([wrap64 (x8 + ((rd_T72 x13 x15).f1))] : List Int))).bind fun t384 => (impl_total.l0 k x0 (wrap64 (x8 + ((rd_T72 x13 x15).f1))) t384 x13 x14 (wrap64 (x15 + 1)) x378000 x378001 x378002)) else (impl_total.l0 k x0 (wrap64 (x8 + ((rd_T72 x13 x15).f1))) false x13 x14 (wrap64 (x15 + 1)) x378000 x378001 x378002)) else (impl_total.l0 k x0 x8 x9 x13 x14 (wrap64 (x15 + 1)) x378000 x378001 x378002))) else (none)) else (none)) else (some (x8, x9))
def impl_total.f (k : Nat) (a0 a1_0 a1_1 a1_2 : Int) (l1_3 : List (S72)) (a2_0 a2_1 a2_2 : Int) : Option (Int × Bool) := impl_total.l0 k a0 0 true l1_3 (l1_3.length : Int) 0 a2_0 a2_1 a2_2
theorem impl_total.calls (k : Nat) (a0 a1_0 a1_1 a1_2 : Int) (A1_3 : Option Addr) (c1_3 : Nat) (l1_3 : List (S72)) (a2_0 a2_1 a2_2 r1 : Int) (r2 : Bool) (w : World) (hr1_3 : Kd.C k72 w A1_3 l1_3.length l1_3) (hc1_3 : l1_3.length ≤ c1_3) (h : impl_total.f k a0 a1_0 a1_1 a1_2 l1_3 a2_0 a2_1 a2_2 = some (r1, r2)) :
  Calls Try.prog 47 #[.int .i64 a0, .agg #[.int .i64 a1_0, .int .i64 a1_1, .int .i64 a1_2, .slice A1_3 l1_3.length c1_3], .agg #[.int .i64 a2_0, .int .i64 a2_1, .int .i64 a2_2]] w fun e w' => e = .returned (.tuple #[.int .i64 r1, .bool r2]) ∧ Below w.heap.size w w' := by
 have hu34 := Try.underlying34
 have hu31 := Try.underlying31
 have hu72 := Try.underlying72
 have HR1_3 := Aside0.mk hr1_3
 have HC1_3 := Aside0.mk hc1_3
 clear hr1_3 hc1_3
 have HB := Aside0.mk (Below.refl w.heap.size w)
 unfold impl_total.f at h
 have H := h
 clear h
 have H' := Aside0.mk H
 clear H
 go_enter Try.func47, Try.ntmps47
 go_wp2_with (first | ((refine gd_ 4 ?_); (try (refine gate_guard (by rfl) ?_; dsimp only)); refine by_ 4 #[.int .i64 a1_0, .int .i64 a1_1, .int .i64 a1_2, .slice A1_3 l1_3.length c1_3] 34 HB ?_; intro gb376 hg w4 BK376 hb GW376 HB_; replace HB := HB_; clear hb hg) | ((refine gd_ 5 ?_); (try (refine gate_guard (by rfl) ?_; dsimp only)); refine by_ 5 #[.int .i64 a2_0, .int .i64 a2_1, .int .i64 a2_2] 31 HB ?_; intro gb377 hg w5 BK377 hb GW377 HB_; have NB376_377 := bm_ BK376 hg; have NB377_376 := bn_ BK376 hg; replace BK376 := bb_ BK376 hb; replace HB := HB_; clear hb hg; have hnb6 := NB376_377.out; have hnc6 := NB377_376.out; obtain ⟨hcz7_0, hcz7_1, hcz7_2, hcz7_3, hfz7_0, hfz7_1, hfz7_2, hfz7_3⟩ := ch4_ BK376))
 go_loopg [8, 9, 15] k (fun kq v8 v9 v15 w' => ∃ (x8_1 : Int) (x9_1 : Bool) (x15_1 : Int), v8 = .int .i64 x8_1 ∧ v9 = .bool x9_1 ∧ v15 = .int .i64 x15_1 ∧ Aside0 (impl_total.l0 kq a0 x8_1 x9_1 l1_3 (l1_3.length : Int) x15_1 a2_0 a2_1 a2_2 = some (r1, r2)) ∧ Aside0 (kq ≤ k) ∧ Aside0 (w'.heap[gb376]? = some (.cells #[.int .i64 a1_0, .int .i64 a1_1, .int .i64 a1_2, (.slice A1_3 l1_3.length c1_3)] 34 (0, 0))) ∧ Aside0 (w'.heap[gb377]? = some (.cells #[.int .i64 a2_0, .int .i64 a2_1, .int .i64 a2_2] 31 (0, 0))) ∧ Aside0 (Below w.heap.size w w'))
 case atStart => exact ⟨(0), (true), (0), en_, en_, en_, H', ⟨Nat.le_refl _⟩, bl_ BK376, bl_ BK377, bw_ HB⟩
 clear H'
 try clear hcz7_0 hcz7_1 hcz7_2 hcz7_3
 try clear hfz7_0 hfz7_1 hfz7_2 hfz7_3
 obtain ⟨x8_1, x9_1, x15_1, rfl, rfl, rfl, HA, HK1, BK376, BK377, HB⟩ := hrel
 cases gk with
 | zero => exact absurd HA.out (by simp [impl_total.l0])
 | succ k1 =>
  have H := HA.out
  clear HA
  simp only [impl_total.l0] at H
  replace H := il_ H
  rcases H with ⟨c8b0, H⟩ | ⟨c8b0, H⟩
  ·replace H := imn_ H
   obtain ⟨c9b0, H⟩ := H
   replace H := iln_ H
   obtain ⟨c10b0, H⟩ := H
   replace H := oc_ H
   obtain ⟨t380, A11, H⟩ := H
   replace H := ib_ H
   rcases H with ⟨rfl, H⟩ | ⟨rfl, H⟩
   ·replace H := ib_ H
    rcases H with ⟨rfl, H⟩ | ⟨rfl, H⟩
    ·obtain ⟨y381, hy381⟩ : ∃ y_ : List Int, y_ = (([wrap64 (x8_1 + ((rd_T72 l1_3 x15_1).f1))] : List Int)) := ⟨_, rfl⟩
     replace H : ((impl_isWeight.f k1 y381).bind fun t384 => (impl_total.l0 k1 a0 (wrap64 (x8_1 + ((rd_T72 l1_3 x15_1).f1))) t384 l1_3 (l1_3.length : Int) (wrap64 (x15_1 + 1)) a2_0 a2_1 a2_2)) = some (r1, r2) := by first | (rw [hy381]; with_reducible exact H) | (have H2_ := (Option.bind_some _ _).symm.trans H; rw [hy381]; with_reducible exact H2_) | (have H2_ := (Option.bind_some _ _).symm.trans H; with_reducible exact H2_) | with_reducible exact H | (rw [hy381]; exact H) | exact H
     have Ny381 := Aside0.mk hy381
     clear hy381
     replace H := oc_ H
     obtain ⟨t384, A14, H⟩ := H
     have H' := Aside0.mk H
     clear H
     have p378 : 0 ≤ (x15_1 : Int) := od_
     have q378 : x15_1 < (l1_3.length : Int) := od_
     obtain ⟨ad378, e378, hx378_0, hx378_1, hx378_2, hx378_3⟩ := at_T72 HR1_3.out x15_1 p378 q378
     cases e378
     replace hx378_0 := clTr HB.out hx378_0
     replace hx378_1 := clTr HB.out hx378_1
     replace hx378_2 := clTr HB.out hx378_2
     replace hx378_3 := clTr HB.out hx378_3
     replace p378 := eq_true p378
     replace q378 := eq_true q378
     go_wp2_with (first | ((refine gd_ 11 ?_); (try (refine gate_guard (by rfl) ?_; dsimp only)); refine by_ 11 #[.int .i64 0, .int .i64 0, .int .i64 0, .int .i64 0] 72 HB ?_; intro gb379 hg w15 BK379 hb GW379 HB_; have NB376_379 := bm_ BK376 hg; have NB379_376 := bn_ BK376 hg; have NB377_379 := bm_ BK377 hg; have NB379_377 := bn_ BK377 hg; replace BK376 := bb_ BK376 hb; replace BK377 := bb_ BK377 hb; replace HB := HB_; clear hb hg; have hnb16 := NB379_376.out; have hnc16 := NB376_379.out; have hnb17 := NB379_377.out; have hnc17 := NB377_379.out; obtain ⟨hcz18_0, hcz18_1, hcz18_2, hcz18_3, hfz18_0, hfz18_1, hfz18_2, hfz18_3⟩ := ch4_ BK379; have hnb19 := NB377_376.out; have hnc19 := NB376_377.out; obtain ⟨hcz20_0, hcz20_1, hcz20_2, hfz20_0, hfz20_1, hfz20_2⟩ := ch3_ BK377) | ((refine gc_ 51 ?_); refine ge_ 23 Try.func51 #[.int .i64 a0, .agg #[.int .i64 a2_0, .int .i64 a2_1, .int .i64 a2_2], .agg #[.int .i64 ((rd_T72 l1_3 x15_1).f0.f0), .int .i64 ((rd_T72 l1_3 x15_1).f0.f1), .int .i64 ((rd_T72 l1_3 x15_1).f0.f2)]] ?_; (with_reducible refine (impl_holds.calls k1 a0 a2_0 a2_1 a2_2 ((rd_T72 l1_3 x15_1).f0.f0) ((rd_T72 l1_3 x15_1).f0.f1) ((rd_T72 l1_3 x15_1).f0.f2) true _ A11.out).mono ?_); rintro e w21 ⟨rfl, hb⟩; refine ⟨_, rfl, ?_⟩; replace BK376 := fb_ BK376 NB376_379 hb; replace BK377 := fb_ BK377 NB377_379 hb; replace BK379 := Aside0.mk (blk_below (g := gb379) (o := .cells #[.int .i64 ((rd_T72 l1_3 x15_1).f0.f0), .int .i64 ((rd_T72 l1_3 x15_1).f0.f1), .int .i64 ((rd_T72 l1_3 x15_1).f0.f2), .int .i64 ((rd_T72 l1_3 x15_1).f1)] 72 (0, 0)) (bp_ BK379).out hb); replace HB := bt_ HB hb; (try clear hb); obtain ⟨hcz22_0, hcz22_1, hcz22_2, hcz22_3, hfz22_0, hfz22_1, hfz22_2, hfz22_3⟩ := ch4_ BK379) | ((refine gd_ 31 ?_); (try (refine gate_guard (by rfl) ?_; dsimp only)); refine Kd.R_lit (Kd.int .i64) _ 2 ?hg (N := 31) ?hd (xs := ([wrap64 (x8_1 + ((rd_T72 l1_3 x15_1).f1))] : List Int)) (inner := [.int .i64 (wrap64 (x8_1 + ((rd_T72 l1_3 x15_1).f1)))]) (ok := fun _ => True) (okp := fun _ => True) ?hr ?hp (fun _ hk => hk) trivial (Below.refl _ _) (Nat.le_refl _) (by simp) ?_; (case hd => rfl); (case hg => rfl); (case hr => first | (go_simp; done) | (go_simp; rfl)); (case hp => exact (Reps.one (show Kd.M (Kd.int .i64) _ _ _ (wrap64 (x8_1 + ((rd_T72 l1_3 x15_1).f1))) [.int .i64 (wrap64 (x8_1 + ((rd_T72 l1_3 x15_1).f1)))] from rfl) (Reps.none _ _))); intro v382 w23 ho24 hb hg_ hnew_; clear hg_ hnew_; (first | rw [← Ny381.out] at ho24 | (simp only [Int.reduceToNat] at ho24; rw [← Ny381.out] at ho24)); have HO383 := Aside0.mk (Kd.R_lower ho24 (below_size (bw_ HB).out)); replace BK376 := bb_ BK376 hb; replace BK377 := bb_ BK377 hb; replace BK379 := bb_ BK379 hb; replace HB := bt_ HB hb; clear hb ho24; obtain ⟨Ao25, co25, eo25⟩ := Kd.R_slice HO383.out; subst eo25) | (go_at_call 56; (with_reducible refine (impl_isWeight.calls k1 _ _ y381 t384 _ ?side1 ?side2 A14.out).mono ?_); (case side1 => exact ca_ (Kd.R_reads' HO383.out).2.2); (case side2 => exact (Kd.R_reads' HO383.out).2.1); rintro e w' ⟨rfl, ⟨nd, rfl⟩⟩))
     go_roundg k1
     case measure => have := HK1.out; omega
     case rel => exact ⟨(wrap64 (x8_1 + ((rd_T72 l1_3 x15_1).f1))), (t384), (wrap64 (x15_1 + 1)), en_, en_, en_, H', ⟨by have := HK1.out; omega⟩, bl_ BK376, bl_ BK377, bw_ HB⟩
    have H' := Aside0.mk H
    clear H
    have p378 : 0 ≤ (x15_1 : Int) := od_
    have q378 : x15_1 < (l1_3.length : Int) := od_
    obtain ⟨ad378, e378, hx378_0, hx378_1, hx378_2, hx378_3⟩ := at_T72 HR1_3.out x15_1 p378 q378
    cases e378
    replace hx378_0 := clTr HB.out hx378_0
    replace hx378_1 := clTr HB.out hx378_1
    replace hx378_2 := clTr HB.out hx378_2
    replace hx378_3 := clTr HB.out hx378_3
    replace p378 := eq_true p378
    replace q378 := eq_true q378
    go_wp2_with (first | ((refine gd_ 11 ?_); (try (refine gate_guard (by rfl) ?_; dsimp only)); refine by_ 11 #[.int .i64 0, .int .i64 0, .int .i64 0, .int .i64 0] 72 HB ?_; intro gb379 hg w26 BK379 hb GW379 HB_; have NB376_379 := bm_ BK376 hg; have NB379_376 := bn_ BK376 hg; have NB377_379 := bm_ BK377 hg; have NB379_377 := bn_ BK377 hg; replace BK376 := bb_ BK376 hb; replace BK377 := bb_ BK377 hb; replace HB := HB_; clear hb hg; have hnb27 := NB379_376.out; have hnc27 := NB376_379.out; have hnb28 := NB379_377.out; have hnc28 := NB377_379.out; obtain ⟨hcz29_0, hcz29_1, hcz29_2, hcz29_3, hfz29_0, hfz29_1, hfz29_2, hfz29_3⟩ := ch4_ BK379; have hnb30 := NB377_376.out; have hnc30 := NB376_377.out; obtain ⟨hcz31_0, hcz31_1, hcz31_2, hfz31_0, hfz31_1, hfz31_2⟩ := ch3_ BK377) | ((refine gc_ 51 ?_); refine ge_ 23 Try.func51 #[.int .i64 a0, .agg #[.int .i64 a2_0, .int .i64 a2_1, .int .i64 a2_2], .agg #[.int .i64 ((rd_T72 l1_3 x15_1).f0.f0), .int .i64 ((rd_T72 l1_3 x15_1).f0.f1), .int .i64 ((rd_T72 l1_3 x15_1).f0.f2)]] ?_; (with_reducible refine (impl_holds.calls k1 a0 a2_0 a2_1 a2_2 ((rd_T72 l1_3 x15_1).f0.f0) ((rd_T72 l1_3 x15_1).f0.f1) ((rd_T72 l1_3 x15_1).f0.f2) true _ A11.out).mono ?_); rintro e w32 ⟨rfl, hb⟩; refine ⟨_, rfl, ?_⟩; replace BK376 := fb_ BK376 NB376_379 hb; replace BK377 := fb_ BK377 NB377_379 hb; replace BK379 := Aside0.mk (blk_below (g := gb379) (o := .cells #[.int .i64 ((rd_T72 l1_3 x15_1).f0.f0), .int .i64 ((rd_T72 l1_3 x15_1).f0.f1), .int .i64 ((rd_T72 l1_3 x15_1).f0.f2), .int .i64 ((rd_T72 l1_3 x15_1).f1)] 72 (0, 0)) (bp_ BK379).out hb); replace HB := bt_ HB hb; (try clear hb); obtain ⟨hcz33_0, hcz33_1, hcz33_2, hcz33_3, hfz33_0, hfz33_1, hfz33_2, hfz33_3⟩ := ch4_ BK379))
    go_roundg k1
    case measure => have := HK1.out; omega
    case rel => exact ⟨(wrap64 (x8_1 + ((rd_T72 l1_3 x15_1).f1))), (false), (wrap64 (x15_1 + 1)), en_, en_, en_, H', ⟨by have := HK1.out; omega⟩, bl_ BK376, bl_ BK377, bw_ HB⟩
   have H' := Aside0.mk H
   clear H
   have p378 : 0 ≤ (x15_1 : Int) := od_
   have q378 : x15_1 < (l1_3.length : Int) := od_
   obtain ⟨ad378, e378, hx378_0, hx378_1, hx378_2, hx378_3⟩ := at_T72 HR1_3.out x15_1 p378 q378
   cases e378
   replace hx378_0 := clTr HB.out hx378_0
   replace hx378_1 := clTr HB.out hx378_1
   replace hx378_2 := clTr HB.out hx378_2
   replace hx378_3 := clTr HB.out hx378_3
   replace p378 := eq_true p378
   replace q378 := eq_true q378
   go_wp2_with (first | ((refine gd_ 11 ?_); (try (refine gate_guard (by rfl) ?_; dsimp only)); refine by_ 11 #[.int .i64 0, .int .i64 0, .int .i64 0, .int .i64 0] 72 HB ?_; intro gb379 hg w34 BK379 hb GW379 HB_; have NB376_379 := bm_ BK376 hg; have NB379_376 := bn_ BK376 hg; have NB377_379 := bm_ BK377 hg; have NB379_377 := bn_ BK377 hg; replace BK376 := bb_ BK376 hb; replace BK377 := bb_ BK377 hb; replace HB := HB_; clear hb hg; have hnb35 := NB379_376.out; have hnc35 := NB376_379.out; have hnb36 := NB379_377.out; have hnc36 := NB377_379.out; obtain ⟨hcz37_0, hcz37_1, hcz37_2, hcz37_3, hfz37_0, hfz37_1, hfz37_2, hfz37_3⟩ := ch4_ BK379; have hnb38 := NB377_376.out; have hnc38 := NB376_377.out; obtain ⟨hcz39_0, hcz39_1, hcz39_2, hfz39_0, hfz39_1, hfz39_2⟩ := ch3_ BK377) | ((refine gc_ 51 ?_); refine ge_ 23 Try.func51 #[.int .i64 a0, .agg #[.int .i64 a2_0, .int .i64 a2_1, .int .i64 a2_2], .agg #[.int .i64 ((rd_T72 l1_3 x15_1).f0.f0), .int .i64 ((rd_T72 l1_3 x15_1).f0.f1), .int .i64 ((rd_T72 l1_3 x15_1).f0.f2)]] ?_; (with_reducible refine (impl_holds.calls k1 a0 a2_0 a2_1 a2_2 ((rd_T72 l1_3 x15_1).f0.f0) ((rd_T72 l1_3 x15_1).f0.f1) ((rd_T72 l1_3 x15_1).f0.f2) false _ A11.out).mono ?_); rintro e w40 ⟨rfl, hb⟩; refine ⟨_, rfl, ?_⟩; replace BK376 := fb_ BK376 NB376_379 hb; replace BK377 := fb_ BK377 NB377_379 hb; replace BK379 := Aside0.mk (blk_below (g := gb379) (o := .cells #[.int .i64 ((rd_T72 l1_3 x15_1).f0.f0), .int .i64 ((rd_T72 l1_3 x15_1).f0.f1), .int .i64 ((rd_T72 l1_3 x15_1).f0.f2), .int .i64 ((rd_T72 l1_3 x15_1).f1)] 72 (0, 0)) (bp_ BK379).out hb); replace HB := bt_ HB hb; (try clear hb)))
   go_roundg k1
   case measure => have := HK1.out; omega
   case rel => exact ⟨(x8_1), (x9_1), (wrap64 (x15_1 + 1)), en_, en_, en_, H', ⟨by have := HK1.out; omega⟩, bl_ BK376, bl_ BK377, bw_ HB⟩
  simp only [Option.some.injEq, Prod.mk.injEq] at H
  obtain ⟨rfl, rfl⟩ := H
  go_wp2
  go_ret2
  exact ⟨es_, (bw_ HB).out⟩
/-! ### impl_mod: function 102 -/
def impl_mod.f (a0 a1 : Int) : Option (Int) := if a1 = 0 then (none) else (some (Int.tmod (wrap64 ((Int.tmod a0 a1) + a1)) a1))
theorem impl_mod.calls (a0 a1 r : Int) (w : World) (h : impl_mod.f a0 a1 = some r) :
  Calls Try.prog 102 #[.int .i64 a0, .int .i64 a1] w fun e w' => e = .returned (.int .i64 r) ∧ Drawn0 w w' := by
 unfold impl_mod.f at h
 have H := h
 clear h
 replace H := ief_ H
 obtain ⟨c3, c3b0, c3b1, H⟩ := H
 obtain rfl := si_ H
 go_enter Try.func102, Try.ntmps102
 go_wp2
 go_ret
 exact ⟨en_, de_⟩
/-! ### impl_valuation: function 103 -/
def impl_valuation.l0 : Nat → Int → Int → Int → Option (Int)
 | 0, _, _, _ => none
 | k + 1, x0, x1, x5 => if x0 = 0 then (none) else (if (Int.tmod x1 x0) = 0 then (impl_valuation.l0 k x0 (wrap64 (Int.tdiv x1 x0)) (wrap64 (x5 + 1))) else (some x5))
def impl_valuation.f (k : Nat) (a0 a1 : Int) : Option (Int) := if a1 = 0 then (some 1000) else (impl_valuation.l0 k a0 a1 0)
theorem impl_valuation.calls (k : Nat) (a0 a1 r : Int) (w : World) (h : impl_valuation.f k a0 a1 = some r) :
  Calls Try.prog 103 #[.int .i64 a0, .int .i64 a1] w fun e w' => e = .returned (.int .i64 r) ∧ Drawn0 w w' := by
 unfold impl_valuation.f at h
 have H := h
 clear h
 replace H := ie_ H
 rcases H with ⟨c3b0, c3b1, H⟩ | ⟨c3, c3b0, c3b1, H⟩
 ·obtain rfl := si_ H
  go_enter Try.func103, Try.ntmps103
  go_wp2
  go_ret
  exact ⟨en_, de_⟩
 have H' := Aside0.mk H
 clear H
 go_enter Try.func103, Try.ntmps103
 go_wp2
 go_loopg [1, 5] k (fun kq v1 v5 w' => ∃ (x1_1 : Int) (x5_1 : Int), v1 = .int .i64 x1_1 ∧ v5 = .int .i64 x5_1 ∧ Aside0 (impl_valuation.l0 kq a0 x1_1 x5_1 = some r) ∧ Aside0 (kq ≤ k) ∧ Drawn0 w w')
 case atStart => exact ⟨(a1), (0), en_, en_, H', ⟨Nat.le_refl _⟩, de_⟩
 clear H'
 try clear c3
 try clear c3b0
 try clear c3b1
 obtain ⟨x1_1, x5_1, rfl, rfl, HA, HK1, ⟨m1, rfl⟩⟩ := hrel
 cases gk with
 | zero => exact absurd HA.out (by simp [impl_valuation.l0])
 | succ k1 =>
  have H := HA.out
  clear HA
  simp only [impl_valuation.l0] at H
  replace H := ief_ H
  obtain ⟨c4, c4b0, c4b1, H⟩ := H
  replace H := ie_ H
  rcases H with ⟨c5b0, c5b1, H⟩ | ⟨c5, c5b0, c5b1, H⟩
  ·have H' := Aside0.mk H
   clear H
   go_wp2
   go_roundg k1
   case measure => have := HK1.out; omega
   case rel => exact ⟨(wrap64 (Int.tdiv x1_1 a0)), (wrap64 (x5_1 + 1)), en_, en_, H', ⟨by have := HK1.out; omega⟩, de_⟩
  obtain rfl := si_ H
  go_wp2
  go_ret
  exact ⟨en_, de_⟩
end Go.Proofs.Ytdfcoebadjhjlaa.QI
