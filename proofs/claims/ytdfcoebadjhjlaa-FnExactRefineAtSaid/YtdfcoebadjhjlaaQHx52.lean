import Derived.Test.YtdfcoebadjhjlaaQHx7
import Derived.Test.YtdfcoebadjhjlaaQHx44
import Derived.Test.YtdfcoebadjhjlaaQHx47
import Derived.Test.YtdfcoebadjhjlaaQHx46
import Derived.Ground.SlgfProg
import Derived.Shelf.SlGeneric
import Derived.Shelf.SlicesQ.IndexFunc
import Derived.Ground.SlgnProg
import Derived.Shelf.SlicesE.Clone
namespace Go.Proofs.Ytdfcoebadjhjlaa.QH
set_option maxHeartbeats 8000000
set_option maxRecDepth 100000
open Go.RowKit Go.Proofs.YtdfcoebadjhjlaaW.PrintWords Go.Proofs.YtdfcoebadjhjlaaW.PrintLast Go.Proofs.YtdfcoebadjhjlaaW.PrintMore
attribute [local go_sem] isSome_setCell max2_int min2_int max_two min_two max_three min_three max_four min_four
set_option linter.unusedVariables false
set_option linter.unusedSimpArgs false

/-! ### impl_IsMeasure: function 33 -/
mutual
def impl_IsMeasure.j0 : Nat → Bool → Int → Int → Int → List (S72) → Option (Bool)
 | 0, _, _, _, _, _ => none
 | k + 1, x20, x385000, x385001, x385002, x385003 => if x20 = true then (some false) else (impl_IsMeasure.l0 k x385003 (x385003.length : Int) 0)
def impl_IsMeasure.l0 : Nat → List (S72) → Int → Int → Option (Bool)
 | 0, _, _, _ => none
 | k + 1, x22, x23, x24 => if x24 < x23 then (if 0 ≤ x24 then (if x24 < (x22.length : Int) then ((impl_isWeight.f k (([(rd_T72 x22 x24).f1] : List Int))).bind fun t392 => (if t392 = true then (impl_IsMeasure.l0 k x22 x23 (wrap64 (x24 + 1))) else (some false))) else (none)) else (none)) else (some true)
end
def impl_IsMeasure.f (k : Nat) (a0 a1_0 a1_1 a1_2 : Int) (l1_3 : List (S72)) : Option (Bool) := (impl_IsBall.f k a0 a1_0 a1_1 a1_2).bind fun t385 => (if t385 = true then ((impl_isPartition.f k a0 a1_0 a1_1 a1_2 l1_3).bind fun t386 => (impl_IsMeasure.j0 k (!t386) a1_0 a1_1 a1_2 l1_3)) else (impl_IsMeasure.j0 k true a1_0 a1_1 a1_2 l1_3))
theorem impl_IsMeasure.calls (k : Nat) (a0 a1_0 a1_1 a1_2 : Int) (A1_3 : Option Addr) (c1_3 : Nat) (l1_3 : List (S72)) (r : Bool) (w : World) (hr1_3 : Kd.C k72 w A1_3 l1_3.length l1_3) (hc1_3 : l1_3.length ≤ c1_3) (h : impl_IsMeasure.f k a0 a1_0 a1_1 a1_2 l1_3 = some r) :
  Calls Try.prog 33 #[.int .i64 a0, .agg #[.int .i64 a1_0, .int .i64 a1_1, .int .i64 a1_2, .slice A1_3 l1_3.length c1_3]] w fun e w' => e = .returned (.bool r) ∧ Below w.heap.size w w' := by
 have hu34 := Try.underlying34
 have hu31 := Try.underlying31
 have hu72 := Try.underlying72
 have HR1_3 := Aside0.mk hr1_3
 have HC1_3 := Aside0.mk hc1_3
 clear hr1_3 hc1_3
 have HB := Aside0.mk (Below.refl w.heap.size w)
 unfold impl_IsMeasure.f at h
 have H := h
 clear h
 have HC3 := Aside0.mk H
 clear H
 go_enter Try.func33, Try.ntmps33
 go_upto_region 1 with (first | ((refine gd_ 3 ?_); refine by_ 3 #[.int .i64 a1_0, .int .i64 a1_1, .int .i64 a1_2, .slice A1_3 l1_3.length c1_3] 34 HB ?_; intro gb384 hg w4 BK384 hb GW384 HB_; replace HB := HB_; clear hb hg))
 (try simp only [Act.put, lstS, lstZ, lstC])
 go_cut [20] (fun v20 wc => ∃ (kq : Nat) (x20_2 : Bool), v20 = .bool x20_2 ∧ Aside0 (impl_IsMeasure.j0 kq x20_2 a1_0 a1_1 a1_2 l1_3 = some r) ∧ Aside0 (kq ≤ k) ∧ Aside0 (wc.heap[gb384]? = some (.cells #[.int .i64 a1_0, .int .i64 a1_1, .int .i64 a1_2, (.slice A1_3 l1_3.length c1_3)] 34 (0, 0))) ∧ Aside0 (Below w.heap.size w wc))
 case first =>
  have H := HC3.out
  clear HC3
  replace H := oc_ H
  obtain ⟨t385, A5, H⟩ := H
  replace H := ib_ H
  rcases H with ⟨rfl, H⟩ | ⟨rfl, H⟩
  ·replace H := oc_ H
   obtain ⟨t386, A7, H⟩ := H
   have H' := Aside0.mk H
   clear H
   obtain ⟨hcz8_0, hcz8_1, hcz8_2, hcz8_3, hfz8_0, hfz8_1, hfz8_2, hfz8_3⟩ := ch4_ BK384
   go_wp2_with (first | ((refine gc_ 63 ?_); refine ge_ 10 Try.func63 #[.int .i64 a0, .agg #[.int .i64 a1_0, .int .i64 a1_1, .int .i64 a1_2]] ?_; (with_reducible refine (impl_IsBall.calls k a0 a1_0 a1_1 a1_2 true _ A5.out).mono ?_); rintro e w9 ⟨rfl, hb⟩; refine ⟨_, rfl, ?_⟩; replace BK384 := bb_ BK384 hb; replace HB := bt_ HB hb; (try clear hb); obtain ⟨hcz10_0, hcz10_1, hcz10_2, hcz10_3, hfz10_0, hfz10_1, hfz10_2, hfz10_3⟩ := ch4_ BK384) | (go_at_call 71; (with_reducible refine (impl_isPartition.calls k a0 a1_0 a1_1 a1_2 _ _ l1_3 t386 _ ?side1 ?side2 A7.out).mono ?_); (case side1 => exact ca_ (Kd.C_below HR1_3.out HB.out)); (case side2 => exact HC1_3.out); rintro e w11 ⟨rfl, hb⟩; replace BK384 := bb_ BK384 hb; replace HB := bt_ HB hb; (try clear hb)))
   go_meet
   case rel => exact ⟨_, (!t386), en_, H', ⟨by first | omega | exact Nat.le_refl _⟩, bl_ BK384, bw_ HB⟩
  have H' := Aside0.mk H
  clear H
  obtain ⟨hcz12_0, hcz12_1, hcz12_2, hcz12_3, hfz12_0, hfz12_1, hfz12_2, hfz12_3⟩ := ch4_ BK384
  go_wp2_with (first | ((refine gc_ 63 ?_); refine ge_ 10 Try.func63 #[.int .i64 a0, .agg #[.int .i64 a1_0, .int .i64 a1_1, .int .i64 a1_2]] ?_; (with_reducible refine (impl_IsBall.calls k a0 a1_0 a1_1 a1_2 false _ A5.out).mono ?_); rintro e w13 ⟨rfl, hb⟩; refine ⟨_, rfl, ?_⟩; replace BK384 := bb_ BK384 hb; replace HB := bt_ HB hb; (try clear hb)))
  go_meet
  case rel => exact ⟨_, (true), en_, H', ⟨by first | omega | exact Nat.le_refl _⟩, bl_ BK384, bw_ HB⟩
 clear HC3
 try clear hcz10_0 hcz10_1 hcz10_2 hcz10_3
 try clear hcz12_0 hcz12_1 hcz12_2 hcz12_3
 try clear hcz8_0 hcz8_1 hcz8_2 hcz8_3
 try clear hfz10_0 hfz10_1 hfz10_2 hfz10_3
 try clear hfz12_0 hfz12_1 hfz12_2 hfz12_3
 try clear hfz8_0 hfz8_1 hfz8_2 hfz8_3
 obtain ⟨kq, x20_2, rfl, HA, HJ2, BK384, HB⟩ := hcut
 cases kq with
 | zero => exact absurd HA.out (by simp [impl_IsMeasure.j0])
 | succ kj2 =>
  have H := HA.out
  clear HA
  simp only [impl_IsMeasure.j0] at H
  replace H := ib_ H
  rcases H with ⟨rfl, H⟩ | ⟨rfl, H⟩
  ·obtain rfl := si_ H
   go_wp2
   go_ret
   exact ⟨es_, (bw_ HB).out⟩
  have H' := Aside0.mk H
  clear H
  obtain ⟨hcz15_0, hcz15_1, hcz15_2, hcz15_3, hfz15_0, hfz15_1, hfz15_2, hfz15_3⟩ := ch4_ BK384
  go_wp2
  go_loopg [24] kj2 (fun kq v24 w' => ∃ (x24_2 : Int), v24 = .int .i64 x24_2 ∧ Aside0 (impl_IsMeasure.l0 kq l1_3 (l1_3.length : Int) x24_2 = some r) ∧ Aside0 (kq ≤ kj2) ∧ Aside0 (w'.heap[gb384]? = some (.cells #[.int .i64 a1_0, .int .i64 a1_1, .int .i64 a1_2, (.slice A1_3 l1_3.length c1_3)] 34 (0, 0))) ∧ Aside0 (Below w.heap.size w w'))
  case atStart => exact ⟨(0), en_, H', ⟨Nat.le_refl _⟩, bl_ BK384, bw_ HB⟩
  clear H'
  try clear hcz10_0 hcz10_1 hcz10_2 hcz10_3
  try clear hcz12_0 hcz12_1 hcz12_2 hcz12_3
  try clear hcz15_0 hcz15_1 hcz15_2 hcz15_3
  try clear hcz8_0 hcz8_1 hcz8_2 hcz8_3
  try clear hfz10_0 hfz10_1 hfz10_2 hfz10_3
  try clear hfz12_0 hfz12_1 hfz12_2 hfz12_3
  try clear hfz15_0 hfz15_1 hfz15_2 hfz15_3
  try clear hfz8_0 hfz8_1 hfz8_2 hfz8_3
  obtain ⟨x24_2, rfl, HA, HK2, BK384, HB⟩ := hrel
  cases gk with
  | zero => exact absurd HA.out (by simp [impl_IsMeasure.l0])
  | succ k2 =>
   have H := HA.out
   clear HA
   simp only [impl_IsMeasure.l0] at H
   replace H := il_ H
   rcases H with ⟨c16b0, H⟩ | ⟨c16b0, H⟩
   ·replace H := imn_ H
    obtain ⟨c17b0, H⟩ := H
    replace H := iln_ H
    obtain ⟨c18b0, H⟩ := H
    obtain ⟨y389, hy389⟩ : ∃ y_ : List Int, y_ = (([(rd_T72 l1_3 x24_2).f1] : List Int)) := ⟨_, rfl⟩
    replace H : ((impl_isWeight.f k2 y389).bind fun t392 => (if t392 = true then (impl_IsMeasure.l0 k2 l1_3 (l1_3.length : Int) (wrap64 (x24_2 + 1))) else (some false))) = some r := by first | (rw [hy389]; with_reducible exact H) | (have H2_ := (Option.bind_some _ _).symm.trans H; rw [hy389]; with_reducible exact H2_) | (have H2_ := (Option.bind_some _ _).symm.trans H; with_reducible exact H2_) | with_reducible exact H | (rw [hy389]; exact H) | exact H
    have Ny389 := Aside0.mk hy389
    clear hy389
    replace H := oc_ H
    obtain ⟨t392, A19, H⟩ := H
    replace H := ib_ H
    rcases H with ⟨rfl, H⟩ | ⟨rfl, H⟩
    ·have H' := Aside0.mk H
     clear H
     have p387 : 0 ≤ (x24_2 : Int) := od_
     have q387 : x24_2 < (l1_3.length : Int) := od_
     obtain ⟨ad387, e387, hx387_0, hx387_1, hx387_2, hx387_3⟩ := at_T72 HR1_3.out x24_2 p387 q387
     cases e387
     replace hx387_0 := clTr HB.out hx387_0
     replace hx387_1 := clTr HB.out hx387_1
     replace hx387_2 := clTr HB.out hx387_2
     replace hx387_3 := clTr HB.out hx387_3
     replace p387 := eq_true p387
     replace q387 := eq_true q387
     go_wp2_with (first | ((refine gd_ 6 ?_); refine by_ 6 #[.int .i64 0, .int .i64 0, .int .i64 0, .int .i64 0] 72 HB ?_; intro gb388 hg w21 BK388 hb GW388 HB_; have NB384_388 := bm_ BK384 hg; have NB388_384 := bn_ BK384 hg; replace BK384 := bb_ BK384 hb; replace HB := HB_; clear hb hg; have hnb22 := NB388_384.out; have hnc22 := NB384_388.out; obtain ⟨hcz23_0, hcz23_1, hcz23_2, hcz23_3, hfz23_0, hfz23_1, hfz23_2, hfz23_3⟩ := ch4_ BK388) | ((refine gd_ 30 ?_); refine Kd.R_lit (Kd.int .i64) _ 2 ?hg (N := 30) ?hd (xs := ([(rd_T72 l1_3 x24_2).f1] : List Int)) (inner := [.int .i64 ((rd_T72 l1_3 x24_2).f1)]) (ok := fun _ => True) (okp := fun _ => True) ?hr ?hp (fun _ hk => hk) trivial (Below.refl _ _) (Nat.le_refl _) (by simp) ?_; (case hd => rfl); (case hg => rfl); (case hr => first | (go_simp; done) | (go_simp; rfl)); (case hp => exact (Reps.one (show Kd.M (Kd.int .i64) _ _ _ ((rd_T72 l1_3 x24_2).f1) [.int .i64 ((rd_T72 l1_3 x24_2).f1)] from rfl) (Reps.none _ _))); intro v390 w24 ho25 hb hg_ hnew_; clear hg_ hnew_; (first | rw [← Ny389.out] at ho25 | (simp only [Int.reduceToNat] at ho25; rw [← Ny389.out] at ho25)); have HO391 := Aside0.mk (Kd.R_lower ho25 (below_size (bw_ HB).out)); replace BK384 := fb_ BK384 NB384_388 hb; replace BK388 := Aside0.mk (blk_below (g := gb388) (o := .cells #[.int .i64 ((rd_T72 l1_3 x24_2).f0.f0), .int .i64 ((rd_T72 l1_3 x24_2).f0.f1), .int .i64 ((rd_T72 l1_3 x24_2).f0.f2), .int .i64 ((rd_T72 l1_3 x24_2).f1)] 72 (0, 0)) (bp_ BK388).out hb); replace HB := bt_ HB hb; clear hb ho25; obtain ⟨Ao26, co26, eo26⟩ := Kd.R_slice HO391.out; subst eo26) | ((refine gc_ 56 ?_); refine ge_ 31 Try.func56 #[.slice Ao26 y389.length co26] ?_; (with_reducible refine (impl_isWeight.calls k2 _ _ y389 true _ ?side1 ?side2 A19.out).mono ?_); (case side1 => exact ca_ (Kd.R_reads' HO391.out).2.2); (case side2 => exact (Kd.R_reads' HO391.out).2.1); rintro e w' ⟨rfl, ⟨nd, rfl⟩⟩; refine ⟨_, rfl, ?_⟩))
     go_roundg k2
     case measure => have := HJ2.out; have := HK2.out; omega
     case rel => exact ⟨(wrap64 (x24_2 + 1)), en_, H', ⟨by have := HJ2.out; have := HK2.out; omega⟩, bl_ BK384, bw_ HB⟩
    obtain rfl := si_ H
    have p387 : 0 ≤ (x24_2 : Int) := od_
    have q387 : x24_2 < (l1_3.length : Int) := od_
    obtain ⟨ad387, e387, hx387_0, hx387_1, hx387_2, hx387_3⟩ := at_T72 HR1_3.out x24_2 p387 q387
    cases e387
    replace hx387_0 := clTr HB.out hx387_0
    replace hx387_1 := clTr HB.out hx387_1
    replace hx387_2 := clTr HB.out hx387_2
    replace hx387_3 := clTr HB.out hx387_3
    replace p387 := eq_true p387
    replace q387 := eq_true q387
    go_wp2_with (first | ((refine gd_ 6 ?_); refine by_ 6 #[.int .i64 0, .int .i64 0, .int .i64 0, .int .i64 0] 72 HB ?_; intro gb388 hg w27 BK388 hb GW388 HB_; have NB384_388 := bm_ BK384 hg; have NB388_384 := bn_ BK384 hg; replace BK384 := bb_ BK384 hb; replace HB := HB_; clear hb hg; have hnb28 := NB388_384.out; have hnc28 := NB384_388.out; obtain ⟨hcz29_0, hcz29_1, hcz29_2, hcz29_3, hfz29_0, hfz29_1, hfz29_2, hfz29_3⟩ := ch4_ BK388) | ((refine gd_ 30 ?_); refine Kd.R_lit (Kd.int .i64) _ 2 ?hg (N := 30) ?hd (xs := ([(rd_T72 l1_3 x24_2).f1] : List Int)) (inner := [.int .i64 ((rd_T72 l1_3 x24_2).f1)]) (ok := fun _ => True) (okp := fun _ => True) ?hr ?hp (fun _ hk => hk) trivial (Below.refl _ _) (Nat.le_refl _) (by simp) ?_; (case hd => rfl); (case hg => rfl); (case hr => first | (go_simp; done) | (go_simp; rfl)); (case hp => exact (Reps.one (show Kd.M (Kd.int .i64) _ _ _ ((rd_T72 l1_3 x24_2).f1) [.int .i64 ((rd_T72 l1_3 x24_2).f1)] from rfl) (Reps.none _ _))); intro v390 w30 ho31 hb hg_ hnew_; clear hg_ hnew_; (first | rw [← Ny389.out] at ho31 | (simp only [Int.reduceToNat] at ho31; rw [← Ny389.out] at ho31)); have HO391 := Aside0.mk (Kd.R_lower ho31 (below_size (bw_ HB).out)); replace BK384 := fb_ BK384 NB384_388 hb; replace BK388 := Aside0.mk (blk_below (g := gb388) (o := .cells #[.int .i64 ((rd_T72 l1_3 x24_2).f0.f0), .int .i64 ((rd_T72 l1_3 x24_2).f0.f1), .int .i64 ((rd_T72 l1_3 x24_2).f0.f2), .int .i64 ((rd_T72 l1_3 x24_2).f1)] 72 (0, 0)) (bp_ BK388).out hb); replace HB := bt_ HB hb; clear hb ho31; obtain ⟨Ao32, co32, eo32⟩ := Kd.R_slice HO391.out; subst eo32) | ((refine gc_ 56 ?_); refine ge_ 31 Try.func56 #[.slice Ao32 y389.length co32] ?_; (with_reducible refine (impl_isWeight.calls k2 _ _ y389 false _ ?side1 ?side2 A19.out).mono ?_); (case side1 => exact ca_ (Kd.R_reads' HO391.out).2.2); (case side2 => exact (Kd.R_reads' HO391.out).2.1); rintro e w' ⟨rfl, ⟨nd, rfl⟩⟩; refine ⟨_, rfl, ?_⟩))
    go_ret
    exact ⟨es_, (bw_ HB).out⟩
   obtain rfl := si_ H
   go_wp2
   go_ret
   exact ⟨es_, (bw_ HB).out⟩
/-! ### impl_measureCode: function 44 -/
def impl_measureCode.j0 : Nat → Int → Bool → Int → Int → Int → List (S72) → Int → Int → Int → Option (Int)
 | 0, _, _, _, _, _, _, _, _, _ => none
 | k + 1, x0, x7, x394000, x394001, x394002, x394003, x395000, x395001, x395002 => if x7 = true then (some 1) else ((impl_holds.f k x0 x394000 x394001 x394002 x395000 x395001 x395002).bind fun t397 => (if t397 = true then (some 0) else (some 2)))
def impl_measureCode.f (k : Nat) (a0 a1_0 a1_1 a1_2 : Int) (l1_3 : List (S72)) (a2_0 a2_1 a2_2 : Int) : Option (Int) := (impl_IsMeasure.f k a0 a1_0 a1_1 a1_2 l1_3).bind fun t395 => (if t395 = true then ((impl_IsBall.f k a0 a2_0 a2_1 a2_2).bind fun t396 => (impl_measureCode.j0 k a0 (!t396) a1_0 a1_1 a1_2 l1_3 a2_0 a2_1 a2_2)) else (impl_measureCode.j0 k a0 true a1_0 a1_1 a1_2 l1_3 a2_0 a2_1 a2_2))
theorem impl_measureCode.calls (k : Nat) (a0 a1_0 a1_1 a1_2 : Int) (A1_3 : Option Addr) (c1_3 : Nat) (l1_3 : List (S72)) (a2_0 a2_1 a2_2 r : Int) (w : World) (hr1_3 : Kd.C k72 w A1_3 l1_3.length l1_3) (hc1_3 : l1_3.length ≤ c1_3) (h : impl_measureCode.f k a0 a1_0 a1_1 a1_2 l1_3 a2_0 a2_1 a2_2 = some r) :
  Calls Try.prog 44 #[.int .i64 a0, .agg #[.int .i64 a1_0, .int .i64 a1_1, .int .i64 a1_2, .slice A1_3 l1_3.length c1_3], .agg #[.int .i64 a2_0, .int .i64 a2_1, .int .i64 a2_2]] w fun e w' => e = .returned (.int .i64 r) ∧ Below w.heap.size w w' := by
 have hu34 := Try.underlying34
 have hu31 := Try.underlying31
 have HR1_3 := Aside0.mk hr1_3
 have HC1_3 := Aside0.mk hc1_3
 clear hr1_3 hc1_3
 have HB := Aside0.mk (Below.refl w.heap.size w)
 unfold impl_measureCode.f at h
 have H := h
 clear h
 have HC4 := Aside0.mk H
 clear H
 go_enter Try.func44, Try.ntmps44
 go_upto_region 1 with (first | ((refine gd_ 4 ?_); refine by_ 4 #[.int .i64 a1_0, .int .i64 a1_1, .int .i64 a1_2, .slice A1_3 l1_3.length c1_3] 34 HB ?_; intro gb393 hg w5 BK393 hb GW393 HB_; replace HB := HB_; clear hb hg) | ((refine gd_ 5 ?_); refine by_ 5 #[.int .i64 a2_0, .int .i64 a2_1, .int .i64 a2_2] 31 HB ?_; intro gb394 hg w6 BK394 hb GW394 HB_; have NB393_394 := bm_ BK393 hg; have NB394_393 := bn_ BK393 hg; replace BK393 := bb_ BK393 hb; replace HB := HB_; clear hb hg))
 (try simp only [Act.put, lstS, lstZ, lstC])
 go_cut [7] (fun v7 wc => ∃ (kq : Nat) (x7_3 : Bool), v7 = .bool x7_3 ∧ Aside0 (impl_measureCode.j0 kq a0 x7_3 a1_0 a1_1 a1_2 l1_3 a2_0 a2_1 a2_2 = some r) ∧ Aside0 (kq ≤ k) ∧ Aside0 (wc.heap[gb393]? = some (.cells #[.int .i64 a1_0, .int .i64 a1_1, .int .i64 a1_2, (.slice A1_3 l1_3.length c1_3)] 34 (0, 0))) ∧ Aside0 (wc.heap[gb394]? = some (.cells #[.int .i64 a2_0, .int .i64 a2_1, .int .i64 a2_2] 31 (0, 0))) ∧ Aside0 (Below w.heap.size w wc))
 case first =>
  have H := HC4.out
  clear HC4
  replace H := oc_ H
  obtain ⟨t395, A7, H⟩ := H
  replace H := ib_ H
  rcases H with ⟨rfl, H⟩ | ⟨rfl, H⟩
  ·replace H := oc_ H
   obtain ⟨t396, A9, H⟩ := H
   have H' := Aside0.mk H
   clear H
   have hnb10 := NB393_394.out
   have hnc10 := NB394_393.out
   obtain ⟨hcz11_0, hcz11_1, hcz11_2, hcz11_3, hfz11_0, hfz11_1, hfz11_2, hfz11_3⟩ := ch4_ BK393
   go_wp2_with (first | ((refine gc_ 33 ?_); refine ge_ 10 Try.func33 #[.int .i64 a0, .agg #[.int .i64 a1_0, .int .i64 a1_1, .int .i64 a1_2, .slice A1_3 l1_3.length c1_3]] ?_; (with_reducible refine (impl_IsMeasure.calls k a0 a1_0 a1_1 a1_2 _ _ l1_3 true _ ?side1 ?side2 A7.out).mono ?_); (case side1 => exact ca_ (Kd.C_below HR1_3.out (bw_ HB).out)); (case side2 => exact HC1_3.out); rintro e w12 ⟨rfl, hb⟩; refine ⟨_, rfl, ?_⟩; replace BK393 := bb_ BK393 hb; replace BK394 := bb_ BK394 hb; replace HB := bt_ HB hb; (try clear hb); obtain ⟨hcz13_0, hcz13_1, hcz13_2, hfz13_0, hfz13_1, hfz13_2⟩ := ch3_ BK394) | (go_at_call 63; (with_reducible refine (impl_IsBall.calls k a0 a2_0 a2_1 a2_2 t396 _ A9.out).mono ?_); rintro e w14 ⟨rfl, hb⟩; replace BK393 := bb_ BK393 hb; replace BK394 := bb_ BK394 hb; replace HB := bt_ HB hb; (try clear hb)))
   go_meet
   case rel => exact ⟨_, (!t396), en_, H', ⟨by first | omega | exact Nat.le_refl _⟩, bl_ BK393, bl_ BK394, bw_ HB⟩
  have H' := Aside0.mk H
  clear H
  have hnb15 := NB393_394.out
  have hnc15 := NB394_393.out
  obtain ⟨hcz16_0, hcz16_1, hcz16_2, hcz16_3, hfz16_0, hfz16_1, hfz16_2, hfz16_3⟩ := ch4_ BK393
  go_wp2_with (first | ((refine gc_ 33 ?_); refine ge_ 10 Try.func33 #[.int .i64 a0, .agg #[.int .i64 a1_0, .int .i64 a1_1, .int .i64 a1_2, .slice A1_3 l1_3.length c1_3]] ?_; (with_reducible refine (impl_IsMeasure.calls k a0 a1_0 a1_1 a1_2 _ _ l1_3 false _ ?side1 ?side2 A7.out).mono ?_); (case side1 => exact ca_ (Kd.C_below HR1_3.out (bw_ HB).out)); (case side2 => exact HC1_3.out); rintro e w17 ⟨rfl, hb⟩; refine ⟨_, rfl, ?_⟩; replace BK393 := bb_ BK393 hb; replace BK394 := bb_ BK394 hb; replace HB := bt_ HB hb; (try clear hb)))
  go_meet
  case rel => exact ⟨_, (true), en_, H', ⟨by first | omega | exact Nat.le_refl _⟩, bl_ BK393, bl_ BK394, bw_ HB⟩
 clear HC4
 try clear hcz11_0 hcz11_1 hcz11_2 hcz11_3
 try clear hcz13_0 hcz13_1 hcz13_2
 try clear hcz16_0 hcz16_1 hcz16_2 hcz16_3
 try clear hfz11_0 hfz11_1 hfz11_2 hfz11_3
 try clear hfz13_0 hfz13_1 hfz13_2
 try clear hfz16_0 hfz16_1 hfz16_2 hfz16_3
 obtain ⟨kq, x7_3, rfl, HA, HJ3, BK393, BK394, HB⟩ := hcut
 cases kq with
 | zero => exact absurd HA.out (by simp [impl_measureCode.j0])
 | succ kj3 =>
  have H := HA.out
  clear HA
  simp only [impl_measureCode.j0] at H
  replace H := ib_ H
  rcases H with ⟨rfl, H⟩ | ⟨rfl, H⟩
  ·obtain rfl := si_ H
   go_wp2
   go_ret
   exact ⟨es_, (bw_ HB).out⟩
  replace H := oc_ H
  obtain ⟨t397, A19, H⟩ := H
  replace H := ib_ H
  rcases H with ⟨rfl, H⟩ | ⟨rfl, H⟩
  ·obtain rfl := si_ H
   have hnb21 := NB393_394.out
   have hnc21 := NB394_393.out
   obtain ⟨hcz22_0, hcz22_1, hcz22_2, hcz22_3, hfz22_0, hfz22_1, hfz22_2, hfz22_3⟩ := ch4_ BK393
   obtain ⟨hcz23_0, hcz23_1, hcz23_2, hfz23_0, hfz23_1, hfz23_2⟩ := ch3_ BK394
   go_wp2_with (first | ((refine gc_ 51 ?_); refine ge_ 23 Try.func51 #[.int .i64 a0, .agg #[.int .i64 a1_0, .int .i64 a1_1, .int .i64 a1_2], .agg #[.int .i64 a2_0, .int .i64 a2_1, .int .i64 a2_2]] ?_; (with_reducible refine (impl_holds.calls kj3 a0 a1_0 a1_1 a1_2 a2_0 a2_1 a2_2 true _ A19.out).mono ?_); rintro e w24 ⟨rfl, hb⟩; refine ⟨_, rfl, ?_⟩; replace BK393 := bb_ BK393 hb; replace BK394 := bb_ BK394 hb; replace HB := bt_ HB hb; (try clear hb)))
   go_ret
   exact ⟨es_, (bw_ HB).out⟩
  obtain rfl := si_ H
  have hnb25 := NB393_394.out
  have hnc25 := NB394_393.out
  obtain ⟨hcz26_0, hcz26_1, hcz26_2, hcz26_3, hfz26_0, hfz26_1, hfz26_2, hfz26_3⟩ := ch4_ BK393
  obtain ⟨hcz27_0, hcz27_1, hcz27_2, hfz27_0, hfz27_1, hfz27_2⟩ := ch3_ BK394
  go_wp2_with (first | ((refine gc_ 51 ?_); refine ge_ 23 Try.func51 #[.int .i64 a0, .agg #[.int .i64 a1_0, .int .i64 a1_1, .int .i64 a1_2], .agg #[.int .i64 a2_0, .int .i64 a2_1, .int .i64 a2_2]] ?_; (with_reducible refine (impl_holds.calls kj3 a0 a1_0 a1_1 a1_2 a2_0 a2_1 a2_2 false _ A19.out).mono ?_); rintro e w28 ⟨rfl, hb⟩; refine ⟨_, rfl, ?_⟩; replace BK393 := bb_ BK393 hb; replace BK394 := bb_ BK394 hb; replace HB := bt_ HB hb; (try clear hb)))
  go_ret
  exact ⟨es_, (bw_ HB).out⟩
/-! ### impl_pieceAt_at: function 77 -/
def index76_ren : Go.Shelf.Ren := ⟨fun | 6 => 76 | n => n, fun | 22 => 32 | 23 => 72 | 25 => 81 | 3 => 3 | 0 => 0 | 4 => 4 | n => n, fun | n => n⟩
theorem index76 : Go.Proofs.SlLaysH0.n6 Try.prog index76_ren := {
  mixed := by kernel_rfl
  f6 := ⟨Try.f76.name, by decide, Try.func76.trans (congrArg some (by kernel_rfl))⟩
  t0 := Try.underlying0
  a0 := Try.isAgg0
  z0 := Try.sizeOf0
  v0 := Try.zeroValue0
  t3 := Try.underlying3
  a3 := Try.isAgg3
  z3 := Try.sizeOf3
  v3 := Try.zeroValue3
  t4 := Try.underlying4
  a4 := Try.isAgg4
  z4 := Try.sizeOf4
  v4 := Try.zeroValue4
  t22 := Try.underlying32
  a22 := Try.isAgg32
  z22 := Try.sizeOf32
  v22 := Try.zeroValue32
  t25 := Try.underlying81
  a25 := Try.isAgg81
  z25 := Try.sizeOf81
  v25 := Try.zeroValue81 }
theorem impl_pieceAt_at.one (b0 b1 b2 : Int) (x : S72) (Bb : Nat) (w : World) (h0 : w.cell? ⟨Bb, 0, none⟩ = some (.int .i64 b0)) (h1 : w.cell? ⟨Bb, 1, none⟩ = some (.int .i64 b1)) (h2 : w.cell? ⟨Bb, 2, none⟩ = some (.int .i64 b2)) (hb : Bb < w.heap.size) :
  Calls Try.prog 77 #[.agg #[.int .i64 x.f0.f0, .int .i64 x.f0.f1, .int .i64 x.f0.f2, .int .i64 x.f1], .pointer (some ⟨Bb, 0, none⟩)] w fun e w' => e = .returned (.bool (x.f0.f0 == b0 && (x.f0.f1 == b1 && (x.f0.f2 == b2)))) ∧ Below w.heap.size w w' := by
 have hne : Bb ≠ w.heap.size := by omega
 go_enter Try.func77, Try.ntmps77
 go_wp2
 all_goals go_ret
 all_goals refine ⟨?_, (Below.refl _ w).alloc (Nat.le_refl _) _⟩
 all_goals first | rfl | simp_all
def impl_pieceAt_at.enc (x : S72) : List Value := [.int .i64 x.f0.f0, .int .i64 x.f0.f1, .int .i64 x.f0.f2, .int .i64 x.f1]
def impl_pieceAt_at.p (a2_0 a2_1 a2_2 : Int) (x : S72) : Bool := x.f0.f0 == a2_0 && (x.f0.f1 == a2_1 && (x.f0.f2 == a2_2))
def impl_pieceAt_at.g (a1_0 a1_1 a1_2 : Int) (l : List (S72)) : Int := Lib.idxBy (fun _ (y : S72) => impl_pieceAt_at.p a1_0 a1_1 a1_2 y) l z72
def impl_pieceAt_at.f (l0 : List (S72)) (a1_0 a1_1 a1_2 : Int) : Option (Int) := some (impl_pieceAt_at.g a1_0 a1_1 a1_2 l0)
theorem impl_pieceAt_at.nil6 (A0 : Option Addr) (c0 : Nat) (lb : Array Value) (w : World) : Calls Try.prog 76 #[.slice A0 0 c0, .func (.func 77) #[] lb] w fun e w' => e = .returned (.int .i64 (-1)) ∧ Below w.heap.size w w' := by
 go_enter Try.func76, Try.ntmps76
 go_wp2
 go_loopg [5, 8] 0 (fun gg _ s8 wr => s8 = .int .i64 0 ∧ Below w.heap.size w wr)
 case atStart => exact ⟨rfl, Below.refl _ w⟩
 obtain ⟨rfl, BW⟩ := hrel
 go_wp2
 go_ret
 exact ⟨rfl, BW⟩
theorem impl_pieceAt_at.calls (A0 : Option Addr) (c0 : Nat) (l0 : List (S72)) (a1_0 a1_1 a1_2 r : Int) (w : World) (Bb : Nat) (hB : w.heap[Bb]? = some (.cells #[.int .i64 a1_0, .int .i64 a1_1, .int .i64 a1_2] 31 (0, 0))) (hr0 : Kd.C k72 w A0 l0.length l0) (hc0 : l0.length ≤ c0) (h : impl_pieceAt_at.f l0 a1_0 a1_1 a1_2 = some r) :
  Calls Try.prog 76 #[.slice A0 l0.length c0, .func (.func 77) #[] #[.pointer (some ⟨Bb, 0, none⟩)]] w fun e w' => e = .returned (.int .i64 r) ∧ Below w.heap.size w w' := by
 obtain rfl : impl_pieceAt_at.g a1_0 a1_1 a1_2 l0 = r := Option.some.inj h
 clear h
 rcases Nat.eq_zero_or_pos l0.length with hz | hl0
 ·obtain rfl := List.eq_nil_of_length_eq_zero hz
  exact impl_pieceAt_at.nil6 A0 c0 _ w
 have hbl : Bb < w.heap.size := (Array.getElem?_eq_some_iff.1 hB).1
 have hc : ∀ i v, (#[.int .i64 a1_0, .int .i64 a1_1, .int .i64 a1_2] : Array Value)[i]? = some v → w.cell? ⟨Bb, i, none⟩ = some v := fun i v h => by
  unfold World.cell?
  rw [hB]
  exact h
 obtain ⟨ad, ca, rfl, hca, hKa, hcc⟩ := Kd.C_get hr0 z72 0 (by omega) (by omega)
 obtain ⟨b, off, sp⟩ := ad
 have hsp : sp = none := by
  cases sp with
  | none => rfl
  | some s_ =>
   obtain rfl := k72_open hKa
   have h1 := hcc 0 _ rfl
   simp only [Int.toNat_zero, Nat.zero_mul, Nat.zero_add, Nat.add_zero, Addr.add, if_true] at h1
   unfold World.cell? at h1
   split at h1 <;> simp at h1
 subst hsp
 clear hcc hKa hca
 have hadd : ∀ j, (⟨b, off, none⟩ : Addr).add j = ⟨b, off + j, none⟩ := fun j => by unfold Addr.add; split <;> simp_all
 have hcells : ∀ (j : Nat), j < l0.length → ∀ i v, (impl_pieceAt_at.enc (l0.getD j z72))[i]? = some v → w.cell? ⟨b, off + (j * 4 + i), none⟩ = some v := by
  intro j hj i v hi
  obtain ⟨ad', cj, he, hcj, hKj, hccj⟩ := Kd.C_get hr0 z72 (j : Int) (by omega) (by omega)
  injection he with he
  subst he
  obtain rfl := k72_open hKj
  rw [← hadd]
  exact hccj i v hi
 have hbw : b < w.heap.size := by
  have h1 := hcells 0 hl0 0 _ rfl
  unfold World.cell? at h1
  split at h1
  ·rename_i h2; exact (Array.getElem?_eq_some_iff.1 h2).1
  simp at h1
 letI : Inhabited (S72) := ⟨z72⟩
 have hget : ∀ j, j < l0.length → l0[j]! = l0.getD j z72 := fun j hj => by
  rw [getElem!_pos l0 j hj, List.getD_eq_getElem?_getD, List.getElem?_eq_getElem hj]; rfl
 have hany : Lib.idxBy (fun _ (y : S72) => impl_pieceAt_at.p a1_0 a1_1 a1_2 y) (l0.take l0.length) z72 = impl_pieceAt_at.g a1_0 a1_1 a1_2 l0 := by rw [List.take_length]; rfl
 rw [← hany]
 refine AnyQ.slices_IndexFunc (P := Try.prog) index76 4 Try.isAgg72 Try.sizeOf72 impl_pieceAt_at.enc (fun _ => rfl) (impl_pieceAt_at.p a1_0 a1_1 a1_2) 77 #[.pointer (some ⟨Bb, 0, none⟩)] (enters_of Try.func77 (by kernel_rfl) rfl) b off l0.length c0 l0 w
  (fun W x hW => ?_) (Nat.le_refl _) (by have := hr0.2.1; omega) hbw (fun j hj i v hi => ?_)
 ·have cell : ∀ (i : Nat) (v : Value), w.cell? ⟨Bb, i, none⟩ = some v → W.cell? ⟨Bb, i, none⟩ = some v := fun i v h => (hW.cell (p := ⟨Bb, i, none⟩) hbl).trans h
  have e : ∀ y : Value, (#[y] ++ #[.pointer (some ⟨Bb, 0, none⟩)] : Array Value) = #[y, .pointer (some ⟨Bb, 0, none⟩)] := fun _ => by simp
  have h := impl_pieceAt_at.one a1_0 a1_1 a1_2 x Bb W (cell _ _ (hc 0 _ rfl)) (cell _ _ (hc 1 _ rfl)) (cell _ _ (hc 2 _ rfl)) (by have := hW.size; omega)
  rw [← e] at h
  refine h.mono ?_
  rintro e w' ⟨rfl, hb'⟩
  exact ⟨rfl, hW.trans (hb'.mono hW.size)⟩
 have h1 := hcells j hj i v (by rw [← hget j hj]; exact hi)
 rw [Nat.add_assoc]
 exact h1

/-! ### impl_pieceAt: function 45 -/
def impl_pieceAt.f (a0_0 a0_1 a0_2 : Int) (l0_3 : List (S72)) (a1_0 a1_1 a1_2 : Int) : Option (Int) := (impl_pieceAt_at.f l0_3 a1_0 a1_1 a1_2).bind fun t400 => (some t400)
theorem impl_pieceAt.calls (a0_0 a0_1 a0_2 : Int) (A0_3 : Option Addr) (c0_3 : Nat) (l0_3 : List (S72)) (a1_0 a1_1 a1_2 r : Int) (w : World) (hr0_3 : Kd.C k72 w A0_3 l0_3.length l0_3) (hc0_3 : l0_3.length ≤ c0_3) (h : impl_pieceAt.f a0_0 a0_1 a0_2 l0_3 a1_0 a1_1 a1_2 = some r) :
  Calls Try.prog 45 #[.agg #[.int .i64 a0_0, .int .i64 a0_1, .int .i64 a0_2, .slice A0_3 l0_3.length c0_3], .agg #[.int .i64 a1_0, .int .i64 a1_1, .int .i64 a1_2]] w fun e w' => e = .returned (.int .i64 r) ∧ Below w.heap.size w w' := by
 have hu34 := Try.underlying34
 have hu31 := Try.underlying31
 have HR0_3 := Aside0.mk hr0_3
 have HC0_3 := Aside0.mk hc0_3
 clear hr0_3 hc0_3
 have HB := Aside0.mk (Below.refl w.heap.size w)
 unfold impl_pieceAt.f at h
 have H := h
 clear h
 replace H := oc_ H
 obtain ⟨t400, A3, H⟩ := H
 obtain rfl := si_ H
 go_enter Try.func45, Try.ntmps45
 go_wp2_with (first | ((refine gd_ 2 ?_); refine by_ 2 #[.int .i64 a0_0, .int .i64 a0_1, .int .i64 a0_2, .slice A0_3 l0_3.length c0_3] 34 HB ?_; intro gb398 hg w4 BK398 hb GW398 HB_; replace HB := HB_; clear hb hg) | ((refine gd_ 3 ?_); refine by_ 3 #[.int .i64 a1_0, .int .i64 a1_1, .int .i64 a1_2] 31 HB ?_; intro gb399 hg w5 BK399 hb GW399 HB_; have NB398_399 := bm_ BK398 hg; have NB399_398 := bn_ BK398 hg; replace BK398 := bb_ BK398 hb; replace HB := HB_; clear hb hg; have hnb6 := NB398_399.out; have hnc6 := NB399_398.out; obtain ⟨hcz7_0, hcz7_1, hcz7_2, hcz7_3, hfz7_0, hfz7_1, hfz7_2, hfz7_3⟩ := ch4_ BK398) | ((refine gc_ 76 ?_); refine ge_ 8 Try.func76 #[.slice A0_3 l0_3.length c0_3, .func (.func 77) #[] #[.pointer (some ⟨gb399, 0, none⟩)]] ?_; (with_reducible refine (impl_pieceAt_at.calls _ _ l0_3 a1_0 a1_1 a1_2 t400 _ gb399 ?sb0 ?side1 ?side2 A3.out).mono ?_); (case sb0 => exact (bp_ BK399).out); (case side1 => exact ca_ (Kd.C_below HR0_3.out HB.out)); (case side2 => exact HC0_3.out); rintro e w8 ⟨rfl, hb⟩; refine ⟨_, rfl, ?_⟩; replace BK398 := bb_ BK398 hb; replace BK399 := bb_ BK399 hb; replace HB := bt_ HB hb; (try clear hb)))
 go_ret
 exact ⟨es_, (bw_ HB).out⟩
/-! ### slices_Clone_impl_Piece: function 49 -/
def clone49_ren : Go.Shelf.Ren := ⟨fun | 41 => 49 | n => n, fun | 22 => 32 | 23 => 72 | 4 => 4 | n => n, fun | n => n⟩
theorem clone49 : Go.Proofs.SlLaysE0.n41 Try.prog clone49_ren := {
  mixed := by kernel_rfl
  f41 := ⟨Try.f49.name, by decide, Try.func49.trans (congrArg some (by kernel_rfl))⟩
  t4 := Try.underlying4
  a4 := Try.isAgg4
  z4 := Try.sizeOf4
  v4 := Try.zeroValue4
  t22 := Try.underlying32
  a22 := Try.isAgg32
  z22 := Try.sizeOf32
  v22 := Try.zeroValue32 }
def slices_Clone_impl_Piece.f (l0 : List (S72)) : Option (List (S72)) := if 0 < l0.length ∧ l0.length ≤ 4398046511104 then some l0 else none
theorem slices_Clone_impl_Piece.calls (A0 : Option Addr) (c0 : Nat) (l0 : List (S72)) (r : List (S72)) (w : World) (hr0 : Kd.C k72 w A0 l0.length l0) (hc0 : l0.length ≤ c0) (h : slices_Clone_impl_Piece.f l0 = some r) :
  Calls Try.prog 49 #[.slice A0 l0.length c0] w fun e w' => ∃ v0_ : Value, e = .returned (v0_) ∧ Kd.R k72 72 w' w.heap.size (fun _ => True) v0_ r ∧ Below w.heap.size w w' := by
 unfold slices_Clone_impl_Piece.f at h
 by_cases hl : 0 < l0.length ∧ l0.length ≤ 4398046511104
 ·rw [if_pos hl] at h
  obtain rfl := Option.some.inj h
  obtain ⟨i0, hi, hzz⟩ := Option.map_eq_some_iff.1 info72
  simp only [Prod.mk.injEq] at hzz
  obtain ⟨hz0, hz1, hz2⟩ := hzz
  obtain ⟨ad, ca, rfl, hca, hKa, hcc⟩ := Kd.C_get hr0 z72 0 (by omega) (by omega)
  obtain ⟨news, hnr, hnc⟩ := ReadsRow.inner_ hr0
  have hsz : k72.sz = 4 := rfl
  have hone : ∀ u ∈ news, u.oneCell' = true := by
   intro u hu
   obtain ⟨q, hq, rfl⟩ := List.mem_iff_getElem.1 hu
   have hs0 : 0 < k72.sz := by rw [hsz]; omega
   have hql : q / k72.sz < l0.length := by rw [Nat.div_lt_iff_lt_mul hs0, ← hnr.1]; exact hq
   have hc := hnr.2 (q / k72.sz) _ (List.getElem?_eq_getElem hql)
   refine k72.K_one hc _ ?_
   rw [List.mem_iff_getElem?]
   refine ⟨q % k72.sz, ?_⟩
   rw [List.getElem?_take, if_pos (Nat.mod_lt _ hs0), List.getElem?_drop, Nat.mul_comm, Nat.div_add_mod, List.getElem?_eq_getElem hq]
  obtain ⟨b, off, sp⟩ := ad
  have hsp : sp = none := by
   cases sp with
   | none => rfl
   | some s_ =>
    obtain ⟨u, hu⟩ : ∃ u, ca[0]? = some u := ⟨_, List.getElem?_eq_getElem (by rw [hca, hsz]; omega)⟩
    have h1 := hcc 0 u hu
    simp only [Int.toNat_zero, Nat.zero_mul, Nat.zero_add, Nat.add_zero, Addr.add, if_true] at h1
    unfold World.cell? at h1
    split at h1 <;> simp at h1
  subst hsp
  have hadd : ∀ j, (⟨b, off, none⟩ : Addr).add j = ⟨b, off + j, none⟩ := fun j => by unfold Addr.add; split <;> simp_all
  refine (AnyE.slices_Clone clone49 i0 (.agg #[(.int .i64 0), (.int .i64 0), (.int .i64 0), (.int .i64 0)]) 4 32 hi hz0 hz1 hz2 rfl (by decide) Try.sizeOf72 b off l0.length c0 news w (by rw [hnr.1, hsz]) (by unfold maxLen; omega) (by omega) (fun j u hu => by rw [← hadd]; exact hnc j u hu) hone).mono ?_
  rintro e w' ⟨v', rfl, ho, _, hb⟩
  refine ⟨v', rfl, ⟨fun _ _ => trivial, news, ho, hnr.imp_ (fun x cs hK => ?_)⟩, hb⟩
  obtain rfl := k72_open hK
  exact k72_mkM _ _ _ x
 rw [if_neg hl] at h
 exact absurd h (by simp)
end Go.Proofs.Ytdfcoebadjhjlaa.QH
