import Derived.Test.YtbldceikdajdlaaQDx4
import Derived.Test.YtbldceikdajdlaaQDx62
import Derived.Test.YtbldceikdajdlaaQDx63
import Derived.Test.YtbldceikdajdlaaQDx60
import Derived.Test.YtbldceikdajdlaaQDx56
namespace Go.Proofs.Ytbldceikdajdlaa.QD
set_option maxHeartbeats 8000000
set_option maxRecDepth 100000
open Go.RowKit Go.Proofs.YtbldceikdajdlaaW.PrintWords Go.Proofs.YtbldceikdajdlaaW.PrintLast Go.Proofs.YtbldceikdajdlaaW.PrintMore
attribute [local go_sem] isSome_setCell max2_int min2_int max_two min_two max_three min_three max_four min_four
set_option linter.unusedVariables false
set_option linter.unusedSimpArgs false

/-! ### impl_IsMeasure: function 53 -/
mutual
def impl_IsMeasure.j0 : Nat → Bool → Int → Int → Int → List (S52) → Option (Bool)
 | 0, _, _, _, _, _ => none
 | k + 1, x20, x356000, x356001, x356002, x356003 => if x20 = true then (some false) else (impl_IsMeasure.l0 k x356003 (x356003.length : Int) 0)
def impl_IsMeasure.l0 : Nat → List (S52) → Int → Int → Option (Bool)
 | 0, _, _, _ => none
 | k + 1, x22, x23, x24 => if x24 < x23 then (if 0 ≤ x24 then (if x24 < (x22.length : Int) then ((impl_isWeight.f k (([(rd_T52 x22 x24).f1] : List Int))).bind fun t363 => (if t363 = true then (impl_IsMeasure.l0 k x22 x23 (wrap64 (x24 + 1))) else (some false))) else (none)) else (none)) else (some true)
end
def impl_IsMeasure.f (k : Nat) (a0 : Int) (a1_0 : Int) (a1_1 : Int) (a1_2 : Int) (l1_3 : List (S52)) : Option (Bool) := (impl_IsBall.f k a0 a1_0 a1_1 a1_2).bind fun t356 => (if t356 = true then ((impl_isPartition.f k a0 a1_0 a1_1 a1_2 l1_3).bind fun t357 => (impl_IsMeasure.j0 k (!t357) a1_0 a1_1 a1_2 l1_3)) else (impl_IsMeasure.j0 k true a1_0 a1_1 a1_2 l1_3))
theorem impl_IsMeasure.calls (k : Nat) (a0 : Int) (a1_0 : Int) (a1_1 : Int) (a1_2 : Int) (A1_3 : Option Addr) (c1_3 : Nat) (l1_3 : List (S52)) (r : Bool) (w : World) (hr1_3 : Kd.C k52 w A1_3 l1_3.length l1_3) (hc1_3 : l1_3.length ≤ c1_3) (h : impl_IsMeasure.f k a0 a1_0 a1_1 a1_2 l1_3 = some r) :
  Calls Try.prog 53 #[.int .i64 a0, .agg #[.int .i64 a1_0, .int .i64 a1_1, .int .i64 a1_2, .slice A1_3 l1_3.length c1_3]] w fun e w' => e = .returned (.bool r) ∧ Below w.heap.size w w' := by
 have hu28 := Try.underlying28
 have hu25 := Try.underlying25
 have hu52 := Try.underlying52
 have HR1_3 := Aside0.mk hr1_3
 have HC1_3 := Aside0.mk hc1_3
 clear hr1_3 hc1_3
 have HB := Aside0.mk (Below.refl w.heap.size w)
 have H : ((impl_IsBall.f k a0 a1_0 a1_1 a1_2).bind fun t356 => (if t356 = true then ((impl_isPartition.f k a0 a1_0 a1_1 a1_2 l1_3).bind fun t357 => (impl_IsMeasure.j0 k (!t357) a1_0 a1_1 a1_2 l1_3)) else (impl_IsMeasure.j0 k true a1_0 a1_1 a1_2 l1_3))) = some r := h
 clear h
 have HC3 := Aside0.mk H
 clear H
 go_enter Try.func53, Try.ntmps53
 go_upto_region 1 with (first | (refine bx_ 3 #[.int .i64 a1_0, .int .i64 a1_1, .int .i64 a1_2, .slice A1_3 l1_3.length c1_3] 28 ?_; intro gb355 hg w4 hbox hb; have BK355 := Aside0.mk (hbox); have GW355 := bs_ HB hg; have GE355 := bs_ HB hg; replace HB := bt_ HB hb; clear hb hbox hg))
 (try simp only [Act.put, lstS, lstZ, lstC])
 go_cut [20] (fun v20 wc => ∃ (kq : Nat) (x20_2 : Bool), v20 = .bool x20_2 ∧ Aside0 (impl_IsMeasure.j0 kq x20_2 a1_0 a1_1 a1_2 l1_3 = some r) ∧ Aside0 (kq ≤ k) ∧ Aside0 (wc.heap[gb355]? = some (.cells #[.int .i64 a1_0, .int .i64 a1_1, .int .i64 a1_2, (.slice A1_3 l1_3.length c1_3)] 28 (0, 0))) ∧ Aside0 (Below w.heap.size w wc))
 case first =>
  have H := HC3.out
  clear HC3
  replace H := ob_ H
  obtain ⟨t356, A50, H⟩ := H
  have A5 := Aside0.mk A50
  clear A50
  by_cases c6 : t356 = true
  ·subst c6
   have H1 : ((impl_isPartition.f k a0 a1_0 a1_1 a1_2 l1_3).bind fun t357 => (impl_IsMeasure.j0 k (!t357) a1_0 a1_1 a1_2 l1_3)) = some r := by rw [if_pos rfl] at H; exact H
   clear H
   have H := H1
   clear H1
   replace H := ob_ H
   obtain ⟨t357, A70, H⟩ := H
   have A7 := Aside0.mk A70
   clear A70
   have H' := Aside0.mk H
   clear H
   obtain ⟨hcz8_0, hcz8_1, hcz8_2, hcz8_3, hfz8_0, hfz8_1, hfz8_2, hfz8_3⟩ := ch4_ BK355
   go_wp2_with (first | (refine ge_ 10 Try.func28 #[.int .i64 a0, .agg #[.int .i64 a1_0, .int .i64 a1_1, .int .i64 a1_2]] ?_; (with_reducible refine (impl_IsBall.calls k a0 a1_0 a1_1 a1_2 true _ A5.out).mono ?_); rintro e w9 ⟨rfl, hb⟩; refine ⟨_, rfl, ?_⟩; replace BK355 := bb_ BK355 hb; replace HB := bt_ HB hb; (try clear hb); (try clear hb2); (try clear hk); (try clear hi); obtain ⟨hcz10_0, hcz10_1, hcz10_2, hcz10_3, hfz10_0, hfz10_1, hfz10_2, hfz10_3⟩ := ch4_ BK355) | (go_at_call 80; (with_reducible refine (impl_isPartition.calls k a0 a1_0 a1_1 a1_2 _ _ l1_3 t357 _ ?side1 ?side2 A7.out).mono ?_); (case side1 => exact ca_ (Kd.C_below HR1_3.out HB.out)); (case side2 => exact HC1_3.out); rintro e w11 ⟨rfl, hb⟩; replace BK355 := bb_ BK355 hb; replace HB := bt_ HB hb; (try clear hb); (try clear hb2); (try clear hk); (try clear hi)))
   go_meet
   case rel => exact ⟨_, (!t357), en_, H', ⟨by first | omega | exact Nat.le_refl _⟩, bl_ BK355, bw_ HB⟩
  ·replace c6 := Bool.eq_false_iff.mpr c6
   subst c6
   have H1 : (impl_IsMeasure.j0 k true a1_0 a1_1 a1_2 l1_3) = some r := by rw [if_neg (show ¬ (false = true) by decide)] at H; exact H
   clear H
   have H := H1
   clear H1
   have H' := Aside0.mk H
   clear H
   obtain ⟨hcz12_0, hcz12_1, hcz12_2, hcz12_3, hfz12_0, hfz12_1, hfz12_2, hfz12_3⟩ := ch4_ BK355
   go_wp2_with (first | (refine ge_ 10 Try.func28 #[.int .i64 a0, .agg #[.int .i64 a1_0, .int .i64 a1_1, .int .i64 a1_2]] ?_; (with_reducible refine (impl_IsBall.calls k a0 a1_0 a1_1 a1_2 false _ A5.out).mono ?_); rintro e w13 ⟨rfl, hb⟩; refine ⟨_, rfl, ?_⟩; replace BK355 := bb_ BK355 hb; replace HB := bt_ HB hb; (try clear hb); (try clear hb2); (try clear hk); (try clear hi)))
   go_meet
   case rel => exact ⟨_, (true), en_, H', ⟨by first | omega | exact Nat.le_refl _⟩, bl_ BK355, bw_ HB⟩
 case rest =>
  clear HC3
  try clear c1
  try clear c2
  try clear p2
  try clear c5
  try clear c6
  try clear hcz10_0 hcz10_1 hcz10_2 hcz10_3
  try clear hcz12_0 hcz12_1 hcz12_2 hcz12_3
  try clear hcz8_0 hcz8_1 hcz8_2 hcz8_3
  try clear hfz10_0 hfz10_1 hfz10_2 hfz10_3
  try clear hfz12_0 hfz12_1 hfz12_2 hfz12_3
  try clear hfz8_0 hfz8_1 hfz8_2 hfz8_3
  obtain ⟨kq, x20_2, rfl, HA, HJ2, BK355, HB⟩ := hcut
  cases kq with
  | zero => exact absurd HA.out (by simp [impl_IsMeasure.j0])
  | succ kj2 =>
   have H := HA.out
   clear HA
   simp only [impl_IsMeasure.j0] at H
   by_cases c14 : x20_2 = true
   ·subst c14
    have H1 : (some false) = some r := by rw [if_pos rfl] at H; exact H
    clear H
    have H := H1
    clear H1
    obtain rfl := si_ H
    go_wp2
    go_ret
    exact ⟨es_, (bw_ HB).out⟩
   ·replace c14 := Bool.eq_false_iff.mpr c14
    subst c14
    have H1 : (impl_IsMeasure.l0 kj2 l1_3 (l1_3.length : Int) 0) = some r := by rw [if_neg (show ¬ (false = true) by decide)] at H; exact H
    clear H
    have H := H1
    clear H1
    have H' := Aside0.mk H
    clear H
    obtain ⟨hcz15_0, hcz15_1, hcz15_2, hcz15_3, hfz15_0, hfz15_1, hfz15_2, hfz15_3⟩ := ch4_ BK355
    go_wp2
    go_loopg [24] kj2 (fun kq v24 w' => ∃ (x24_2 : Int), v24 = .int .i64 x24_2 ∧ Aside0 (impl_IsMeasure.l0 kq l1_3 (l1_3.length : Int) x24_2 = some r) ∧ Aside0 (kq ≤ kj2) ∧ Aside0 (w'.heap[gb355]? = some (.cells #[.int .i64 a1_0, .int .i64 a1_1, .int .i64 a1_2, (.slice A1_3 l1_3.length c1_3)] 28 (0, 0))) ∧ Aside0 (Below w.heap.size w w'))
    case atStart => exact ⟨(0), en_, H', ⟨Nat.le_refl _⟩, bl_ BK355, bw_ HB⟩
    case round =>
     clear H'
     try clear c1
     try clear c2
     try clear p2
     try clear c5
     try clear c6
     try clear c14
     try clear hcz10_0 hcz10_1 hcz10_2 hcz10_3
     try clear hcz12_0 hcz12_1 hcz12_2 hcz12_3
     try clear hcz15_0 hcz15_1 hcz15_2 hcz15_3
     try clear hcz8_0 hcz8_1 hcz8_2 hcz8_3
     try clear hfz10_0 hfz10_1 hfz10_2 hfz10_3
     try clear hfz12_0 hfz12_1 hfz12_2 hfz12_3
     try clear hfz15_0 hfz15_1 hfz15_2 hfz15_3
     try clear hfz8_0 hfz8_1 hfz8_2 hfz8_3
     try clear p2
     obtain ⟨x24_2, rfl, HA, HK2, BK355, HB⟩ := hrel
     cases gk with
     | zero => exact absurd HA.out (by simp [impl_IsMeasure.l0])
     | succ k2 =>
      have H := HA.out
      clear HA
      simp only [impl_IsMeasure.l0] at H
      by_cases c16 : x24_2 < (l1_3.length : Int)
      ·rw [if_pos c16] at H
       have c16b0 : decide (x24_2 < (l1_3.length : Int)) = true := decide_eq_true c16
       clear c16
       by_cases c17 : 0 ≤ x24_2
       ·rw [if_pos c17] at H
        have c17b0 : decide (0 ≤ x24_2) = true := decide_eq_true c17
        clear c17
        by_cases c18 : x24_2 < (l1_3.length : Int)
        ·rw [if_pos c18] at H
         have c18b0 : decide (x24_2 < (l1_3.length : Int)) = true := decide_eq_true c18
         clear c18
         obtain ⟨y360, hy360⟩ : ∃ y_ : List Int, y_ = (([(rd_T52 l1_3 x24_2).f1] : List Int)) := ⟨_, rfl⟩
         replace H : ((impl_isWeight.f k2 y360).bind fun t363 => (if t363 = true then (impl_IsMeasure.l0 k2 l1_3 (l1_3.length : Int) (wrap64 (x24_2 + 1))) else (some false))) = some r := by first | (rw [hy360]; with_reducible exact H) | (have H2_ := (Option.bind_some _ _).symm.trans H; rw [hy360]; with_reducible exact H2_) | (have H2_ := (Option.bind_some _ _).symm.trans H; with_reducible exact H2_) | with_reducible exact H | (rw [hy360]; exact H) | exact H
         have Ny360 := Aside0.mk hy360
         clear hy360
         replace H := ob_ H
         obtain ⟨t363, A190, H⟩ := H
         have A19 := Aside0.mk A190
         clear A190
         by_cases c20 : t363 = true
         ·subst c20
          have H1 : (impl_IsMeasure.l0 k2 l1_3 (l1_3.length : Int) (wrap64 (x24_2 + 1))) = some r := by rw [if_pos rfl] at H; exact H
          clear H
          have H := H1
          clear H1
          have H' := Aside0.mk H
          clear H
          have p358 : 0 ≤ (x24_2 : Int) := od_
          have q358 : x24_2 < (l1_3.length : Int) := od_
          obtain ⟨ad358, e358, hx358_0, hx358_1, hx358_2, hx358_3⟩ := at_T52 HR1_3.out x24_2 p358 q358
          cases e358
          replace hx358_0 := clTr HB.out hx358_0
          replace hx358_1 := clTr HB.out hx358_1
          replace hx358_2 := clTr HB.out hx358_2
          replace hx358_3 := clTr HB.out hx358_3
          replace p358 := eq_true p358
          replace q358 := eq_true q358
          go_wp2_with (first | (refine bx_ 6 #[.int .i64 0, .int .i64 0, .int .i64 0, .int .i64 0] 52 ?_; intro gb359 hg w21 hbox hb; have BK359 := Aside0.mk (hbox); have GW359 := bs_ HB hg; have GE359 := bs_ HB hg; have NB355_359 := bm_ BK355 hg; have NB359_355 := bn_ BK355 hg; replace BK355 := bb_ BK355 hb; replace HB := bt_ HB hb; clear hb hbox hg; have hnb22 := NB359_355.out; have hnc22 := NB355_359.out; obtain ⟨hcz23_0, hcz23_1, hcz23_2, hcz23_3, hfz23_0, hfz23_1, hfz23_2, hfz23_3⟩ := ch4_ BK359) | ((with_reducible refine gate_dst (N := 30) rfl ?_); refine Kd.R_lit (Kd.int .i64) _ 2 ?hg (N := 30) ?hd (xs := ([(rd_T52 l1_3 x24_2).f1] : List Int)) (inner := [.int .i64 ((rd_T52 l1_3 x24_2).f1)]) (ok := fun _ => True) (okp := fun _ => True) ?hr ?hp (fun _ hk => hk) trivial (Below.refl _ _) (Nat.le_refl _) (by simp) ?_; (case hd => rfl); (case hg => rfl); (case hr => first | (go_simp; done) | (go_simp; rfl)); (case hp => exact (Reps.one (show Kd.M (Kd.int .i64) _ _ _ ((rd_T52 l1_3 x24_2).f1) [.int .i64 ((rd_T52 l1_3 x24_2).f1)] from rfl) (Reps.none _ _))); intro v361 w24 ho25 hb hg_ hnew_; clear hg_ hnew_; (first | rw [← Ny360.out] at ho25 | (simp only [Int.reduceToNat] at ho25; rw [← Ny360.out] at ho25)); have HO362 := Aside0.mk (Kd.R_lower ho25 (below_size (bw_ HB).out)); replace BK355 := fb_ BK355 NB355_359 hb; replace BK359 := Aside0.mk (blk_below (g := gb359) (o := .cells #[.int .i64 ((rd_T52 l1_3 x24_2).f0.f0), .int .i64 ((rd_T52 l1_3 x24_2).f0.f1), .int .i64 ((rd_T52 l1_3 x24_2).f0.f2), .int .i64 ((rd_T52 l1_3 x24_2).f1)] 52 (0, 0)) (bp_ BK359).out hb); replace HB := bt_ HB hb; clear hb ho25; obtain ⟨Ao26, co26, eo26⟩ := Kd.R_slice HO362.out; subst eo26) | (refine ge_ 31 Try.func29 #[.slice Ao26 y360.length co26] ?_; (with_reducible refine (impl_isWeight.calls k2 _ _ y360 true _ ?side1 ?side2 A19.out).mono ?_); (case side1 => exact ca_ (Kd.R_reads' HO362.out).2.2); (case side2 => exact (Kd.R_reads' HO362.out).2.1); rintro e w' ⟨rfl, ⟨nd, rfl⟩⟩; refine ⟨_, rfl, ?_⟩))
          go_roundg k2
          case measure => have := HJ2.out; have := HK2.out; omega
          case rel => exact ⟨(wrap64 (x24_2 + 1)), en_, H', ⟨by have := HJ2.out; have := HK2.out; omega⟩, bl_ BK355, bw_ HB⟩
         ·replace c20 := Bool.eq_false_iff.mpr c20
          subst c20
          have H1 : (some false) = some r := by rw [if_neg (show ¬ (false = true) by decide)] at H; exact H
          clear H
          have H := H1
          clear H1
          obtain rfl := si_ H
          have p358 : 0 ≤ (x24_2 : Int) := od_
          have q358 : x24_2 < (l1_3.length : Int) := od_
          obtain ⟨ad358, e358, hx358_0, hx358_1, hx358_2, hx358_3⟩ := at_T52 HR1_3.out x24_2 p358 q358
          cases e358
          replace hx358_0 := clTr HB.out hx358_0
          replace hx358_1 := clTr HB.out hx358_1
          replace hx358_2 := clTr HB.out hx358_2
          replace hx358_3 := clTr HB.out hx358_3
          replace p358 := eq_true p358
          replace q358 := eq_true q358
          go_wp2_with (first | (refine bx_ 6 #[.int .i64 0, .int .i64 0, .int .i64 0, .int .i64 0] 52 ?_; intro gb359 hg w27 hbox hb; have BK359 := Aside0.mk (hbox); have GW359 := bs_ HB hg; have GE359 := bs_ HB hg; have NB355_359 := bm_ BK355 hg; have NB359_355 := bn_ BK355 hg; replace BK355 := bb_ BK355 hb; replace HB := bt_ HB hb; clear hb hbox hg; have hnb28 := NB359_355.out; have hnc28 := NB355_359.out; obtain ⟨hcz29_0, hcz29_1, hcz29_2, hcz29_3, hfz29_0, hfz29_1, hfz29_2, hfz29_3⟩ := ch4_ BK359) | ((with_reducible refine gate_dst (N := 30) rfl ?_); refine Kd.R_lit (Kd.int .i64) _ 2 ?hg (N := 30) ?hd (xs := ([(rd_T52 l1_3 x24_2).f1] : List Int)) (inner := [.int .i64 ((rd_T52 l1_3 x24_2).f1)]) (ok := fun _ => True) (okp := fun _ => True) ?hr ?hp (fun _ hk => hk) trivial (Below.refl _ _) (Nat.le_refl _) (by simp) ?_; (case hd => rfl); (case hg => rfl); (case hr => first | (go_simp; done) | (go_simp; rfl)); (case hp => exact (Reps.one (show Kd.M (Kd.int .i64) _ _ _ ((rd_T52 l1_3 x24_2).f1) [.int .i64 ((rd_T52 l1_3 x24_2).f1)] from rfl) (Reps.none _ _))); intro v361 w30 ho31 hb hg_ hnew_; clear hg_ hnew_; (first | rw [← Ny360.out] at ho31 | (simp only [Int.reduceToNat] at ho31; rw [← Ny360.out] at ho31)); have HO362 := Aside0.mk (Kd.R_lower ho31 (below_size (bw_ HB).out)); replace BK355 := fb_ BK355 NB355_359 hb; replace BK359 := Aside0.mk (blk_below (g := gb359) (o := .cells #[.int .i64 ((rd_T52 l1_3 x24_2).f0.f0), .int .i64 ((rd_T52 l1_3 x24_2).f0.f1), .int .i64 ((rd_T52 l1_3 x24_2).f0.f2), .int .i64 ((rd_T52 l1_3 x24_2).f1)] 52 (0, 0)) (bp_ BK359).out hb); replace HB := bt_ HB hb; clear hb ho31; obtain ⟨Ao32, co32, eo32⟩ := Kd.R_slice HO362.out; subst eo32) | (refine ge_ 31 Try.func29 #[.slice Ao32 y360.length co32] ?_; (with_reducible refine (impl_isWeight.calls k2 _ _ y360 false _ ?side1 ?side2 A19.out).mono ?_); (case side1 => exact ca_ (Kd.R_reads' HO362.out).2.2); (case side2 => exact (Kd.R_reads' HO362.out).2.1); rintro e w' ⟨rfl, ⟨nd, rfl⟩⟩; refine ⟨_, rfl, ?_⟩))
          go_ret
          exact ⟨es_, (bw_ HB).out⟩
        ·rw [if_neg c18] at H
         exact absurd H (by simp)
       ·rw [if_neg c17] at H
        exact absurd H (by simp)
      ·rw [if_neg c16] at H
       have c16b0 : decide (x24_2 < (l1_3.length : Int)) = false := decide_eq_false c16
       clear c16
       obtain rfl := si_ H
       go_wp2
       go_ret
       exact ⟨es_, (bw_ HB).out⟩
/-! ### impl_valuation: function 81 -/
def impl_valuation.l0 : Nat → Int → Int → Int → Option (Int)
 | 0, _, _, _ => none
 | k + 1, x0, x1, x5 => if x0 = 0 then (none) else (if (Int.tmod x1 x0) = 0 then (impl_valuation.l0 k x0 (wrap64 (Int.tdiv x1 x0)) (wrap64 (x5 + 1))) else (some x5))
def impl_valuation.f (k : Nat) (a0 : Int) (a1 : Int) : Option (Int) := if a1 = 0 then (some 1000) else (impl_valuation.l0 k a0 a1 0)
theorem impl_valuation.calls (k : Nat) (a0 : Int) (a1 : Int) (r : Int) (w : World) (h : impl_valuation.f k a0 a1 = some r) :
  Calls Try.prog 81 #[.int .i64 a0, .int .i64 a1] w fun e w' => e = .returned (.int .i64 r) ∧ Drawn0 w w' := by
 have H : (if a1 = 0 then (some 1000) else (impl_valuation.l0 k a0 a1 0)) = some r := h
 clear h
 by_cases c3 : a1 = 0
 ·rw [if_pos c3] at H
  have c3b0 : (a1 == 0) = true := beq_iff_eq.mpr c3
  have c3b1 : (a1 != 0) = false := bne_eq_false_iff_eq.mpr c3
  clear c3
  obtain rfl := si_ H
  go_enter Try.func81, Try.ntmps81
  go_wp2
  go_ret
  exact ⟨en_, de_⟩
 ·rw [if_neg c3] at H
  have c3b0 : (a1 == 0) = false := beq_eq_false_iff_ne.mpr c3
  have c3b1 : (a1 != 0) = true := bne_iff_ne.mpr c3
  have H' := Aside0.mk H
  clear H
  go_enter Try.func81, Try.ntmps81
  go_wp2
  go_loopg [1, 5] k (fun kq v1 v5 w' => ∃ (x1_1 : Int) (x5_1 : Int), v1 = .int .i64 x1_1 ∧ v5 = .int .i64 x5_1 ∧ Aside0 (impl_valuation.l0 kq a0 x1_1 x5_1 = some r) ∧ Aside0 (kq ≤ k) ∧ Drawn0 w w')
  case atStart => exact ⟨(a1), (0), en_, en_, H', ⟨Nat.le_refl _⟩, de_⟩
  case round =>
   clear H'
   try clear p2
   try clear c3
   try clear c3b0
   try clear c3b1
   obtain ⟨x1_1, x5_1, rfl, rfl, HA, HK1, ⟨m1, rfl⟩⟩ := hrel
   cases gk with
   | zero => exact absurd HA.out (by simp [impl_valuation.l0])
   | succ k1 =>
    have H := HA.out
    clear HA
    simp only [impl_valuation.l0] at H
    by_cases c4 : a0 = 0
    ·rw [if_pos c4] at H
     exact absurd H (by simp)
    ·rw [if_neg c4] at H
     have c4b0 : (a0 == 0) = false := beq_eq_false_iff_ne.mpr c4
     have c4b1 : (a0 != 0) = true := bne_iff_ne.mpr c4
     by_cases c5 : (Int.tmod x1_1 a0) = 0
     ·rw [if_pos c5] at H
      have c5b0 : ((Int.tmod x1_1 a0) == 0) = true := beq_iff_eq.mpr c5
      have c5b1 : ((Int.tmod x1_1 a0) != 0) = false := bne_eq_false_iff_eq.mpr c5
      clear c5
      have H' := Aside0.mk H
      clear H
      go_wp2
      go_roundg k1
      case measure => have := HK1.out; omega
      case rel => exact ⟨(wrap64 (Int.tdiv x1_1 a0)), (wrap64 (x5_1 + 1)), en_, en_, H', ⟨by have := HK1.out; omega⟩, de_⟩
     ·rw [if_neg c5] at H
      have c5b0 : ((Int.tmod x1_1 a0) == 0) = false := beq_eq_false_iff_ne.mpr c5
      have c5b1 : ((Int.tmod x1_1 a0) != 0) = true := bne_iff_ne.mpr c5
      obtain rfl := si_ H
      go_wp2
      go_ret
      exact ⟨en_, de_⟩
/-! ### impl_determinant: function 82 -/
def impl_determinant.f (a0_0 : Int) (a0_1 : Int) (a0_2 : Int) (a0_3 : Int) : Option (Int) := some (wrap64 ((wrap64 (a0_0 * a0_3)) - (wrap64 (a0_1 * a0_2))))
theorem impl_determinant.calls (a0_0 : Int) (a0_1 : Int) (a0_2 : Int) (a0_3 : Int) (r : Int) (w : World) (h : impl_determinant.f a0_0 a0_1 a0_2 a0_3 = some r) :
  Calls Try.prog 82 #[.agg #[.int .i64 a0_0, .int .i64 a0_1, .int .i64 a0_2, .int .i64 a0_3]] w fun e w' => e = .returned (.int .i64 r) ∧ Below w.heap.size w w' := by
 have hu83 := Try.underlying83
 have hu81 := Try.underlying81
 have HB := Aside0.mk (Below.refl w.heap.size w)
 have H : (some (wrap64 ((wrap64 (a0_0 * a0_3)) - (wrap64 (a0_1 * a0_2))))) = some r := h
 clear h
 obtain rfl := si_ H
 go_enter Try.func82, Try.ntmps82
 go_wp2_with (first | (refine bx_ 1 #[.int .i64 a0_0, .int .i64 a0_1, .int .i64 a0_2, .int .i64 a0_3] 83 ?_; intro gb364 hg w2 hbox hb; have BK364 := Aside0.mk (hbox); have GW364 := bs_ HB hg; have GE364 := bs_ HB hg; replace HB := bt_ HB hb; clear hb hbox hg; obtain ⟨hcz3_0, hcz3_1, hcz3_2, hcz3_3, hfz3_0, hfz3_1, hfz3_2, hfz3_3⟩ := ch4_ BK364))
 go_ret
 exact ⟨es_, (bw_ HB).out⟩
/-! ### impl_mod: function 85 -/
def impl_mod.f (a0 : Int) (a1 : Int) : Option (Int) := if a1 = 0 then (none) else (some (Int.tmod (wrap64 ((Int.tmod a0 a1) + a1)) a1))
theorem impl_mod.calls (a0 : Int) (a1 : Int) (r : Int) (w : World) (h : impl_mod.f a0 a1 = some r) :
  Calls Try.prog 85 #[.int .i64 a0, .int .i64 a1] w fun e w' => e = .returned (.int .i64 r) ∧ Drawn0 w w' := by
 have H : (if a1 = 0 then (none) else (some (Int.tmod (wrap64 ((Int.tmod a0 a1) + a1)) a1))) = some r := h
 clear h
 by_cases c3 : a1 = 0
 ·rw [if_pos c3] at H
  exact absurd H (by simp)
 ·rw [if_neg c3] at H
  have c3b0 : (a1 == 0) = false := beq_eq_false_iff_ne.mpr c3
  have c3b1 : (a1 != 0) = true := bne_iff_ne.mpr c3
  obtain rfl := si_ H
  go_enter Try.func85, Try.ntmps85
  go_wp2
  go_ret
  exact ⟨en_, de_⟩
/-! ### impl_ofMark: function 64 -/
def impl_ofMark.f (k : Nat) (a0 : Int) (a1 : Int) (a2 : Int) : Option (Int × Int × Int × Bool) := (impl_isLevel.f a1).bind fun t366 => (if t366 = true then ((impl_power.f k a0 (wrap64 (a1 + 6))).bind fun t367 => ((impl_mod.f a2 t367).bind fun t368 => ((impl_valuation.f k a0 t368).bind fun t369 => ((impl_power.f k a0 (wrap64 (6 - (mx (wrap64 (6 - t369)) 0)))).bind fun t370 => (if t370 = 0 then (none) else (some (a1, wrap64 (Int.tdiv t368 t370), mx (wrap64 (6 - t369)) 0, true))))))) else (some (0, 0, 0, false)))
theorem impl_ofMark.calls (k : Nat) (a0 : Int) (a1 : Int) (a2 : Int) (r1 : Int) (r2 : Int) (r3 : Int) (r4 : Bool) (w : World) (h : impl_ofMark.f k a0 a1 a2 = some (r1, r2, r3, r4)) :
  Calls Try.prog 64 #[.int .i64 a0, .int .i64 a1, .int .i64 a2] w fun e w' => e = .returned (.tuple #[.agg #[.int .i64 r1, .int .i64 r2, .int .i64 r3], .bool r4]) ∧ Below w.heap.size w w' := by
 have hu25 := Try.underlying25
 have HB := Aside0.mk (Below.refl w.heap.size w)
 have H : ((impl_isLevel.f a1).bind fun t366 => (if t366 = true then ((impl_power.f k a0 (wrap64 (a1 + 6))).bind fun t367 => ((impl_mod.f a2 t367).bind fun t368 => ((impl_valuation.f k a0 t368).bind fun t369 => ((impl_power.f k a0 (wrap64 (6 - (mx (wrap64 (6 - t369)) 0)))).bind fun t370 => (if t370 = 0 then (none) else (some (a1, wrap64 (Int.tdiv t368 t370), mx (wrap64 (6 - t369)) 0, true))))))) else (some (0, 0, 0, false)))) = some (r1, r2, r3, r4) := h
 clear h
 replace H := ob_ H
 obtain ⟨t366, A40, H⟩ := H
 have A4 := Aside0.mk A40
 clear A40
 by_cases c5 : t366 = true
 ·subst c5
  have H1 : ((impl_power.f k a0 (wrap64 (a1 + 6))).bind fun t367 => ((impl_mod.f a2 t367).bind fun t368 => ((impl_valuation.f k a0 t368).bind fun t369 => ((impl_power.f k a0 (wrap64 (6 - (mx (wrap64 (6 - t369)) 0)))).bind fun t370 => (if t370 = 0 then (none) else (some (a1, wrap64 (Int.tdiv t368 t370), mx (wrap64 (6 - t369)) 0, true))))))) = some (r1, r2, r3, r4) := by rw [if_pos rfl] at H; exact H
  clear H
  have H := H1
  clear H1
  replace H := ob_ H
  obtain ⟨t367, A60, H⟩ := H
  have A6 := Aside0.mk A60
  clear A60
  replace H := ob_ H
  obtain ⟨t368, A70, H⟩ := H
  have A7 := Aside0.mk A70
  clear A70
  replace H := ob_ H
  obtain ⟨t369, A80, H⟩ := H
  have A8 := Aside0.mk A80
  clear A80
  obtain ⟨ji9, hji9⟩ : ∃ j_ : Int, (mx (wrap64 (6 - t369)) 0) = j_ := ⟨_, rfl⟩
  replace H : ((impl_power.f k a0 (wrap64 (6 - (ji9)))).bind fun t370 => (if t370 = 0 then (none) else (some (a1, wrap64 (Int.tdiv t368 t370), ji9, true)))) = some (r1, r2, r3, r4) := by first | (rw [hji9] at H; exact H) | (simp only [hji9] at H ⊢; exact H)
  (try rw [hji9] at A4)
  (try rw [hji9] at A6)
  (try rw [hji9] at A7)
  (try rw [hji9] at A8)
  (try (have hji9l : 0 ≤ ji9 := by (rw [← hji9]; unfold mx; (repeat' split) <;> omega)))
  (try (have hji9m : 0 ≤ ji9 := by omega))
  have hji9_ : (if (wrap64 (6 - t369)) < 0 then 0 else (wrap64 (6 - t369))) = ji9 := hji9
  replace H := ob_ H
  obtain ⟨t370, A100, H⟩ := H
  have A10 := Aside0.mk A100
  clear A100
  by_cases c11 : t370 = 0
  ·rw [if_pos c11] at H
   exact absurd H (by simp)
  ·rw [if_neg c11] at H
   have c11b0 : (t370 == 0) = false := beq_eq_false_iff_ne.mpr c11
   have c11b1 : (t370 != 0) = true := bne_iff_ne.mpr c11
   simp only [Option.some.injEq, Prod.mk.injEq] at H
   obtain ⟨rfl, rfl, rfl, rfl⟩ := H
   go_enter Try.func64, Try.ntmps64
   go_wp2_with (first | (refine bx_ 6 #[.int .i64 0, .int .i64 0, .int .i64 0] 25 ?_; intro gb365 hg w12 hbox hb; have BK365 := Aside0.mk (hbox); have GW365 := bs_ HB hg; have GE365 := bs_ HB hg; replace HB := bt_ HB hb; clear hb hbox hg) | (refine ge_ 10 Try.func31 #[.int .i64 a1] ?_; (with_reducible refine (impl_isLevel.calls a1 true _ A4.out).mono ?_); rintro e w' ⟨rfl, ⟨nd, rfl⟩⟩; refine ⟨_, rfl, ?_⟩; (try (rw [drewN_self w12]; generalize hq_ : World.drewN w12 _ = w12; have n0_ : Aside0 (w12.heap[gb365]? = some (.cells #[.int .i64 0, .int .i64 0, .int .i64 0] 25 (0, 0))) := ⟨by rw [← hq_]; exact (bl_ BK365).out⟩; have n1_ : Aside0 (Below w.heap.size w w12) := ⟨by rw [← hq_]; exact (bw_ HB).out⟩; clear BK365 HB hq_; have BK365 := n0_; have HB := n1_; clear n0_ n1_))) | (refine ge_ 17 Try.func30 #[.int .i64 a0, .int .i64 (wrap64 (a1 + 6))] ?_; (with_reducible refine (impl_power.calls k a0 (wrap64 (a1 + 6)) t367 _ A6.out).mono ?_); rintro e w' ⟨rfl, ⟨nd, rfl⟩⟩; refine ⟨_, rfl, ?_⟩; (try (rw [drewN_self w12]; generalize hq_ : World.drewN w12 _ = w12; have n0_ : Aside0 (w12.heap[gb365]? = some (.cells #[.int .i64 0, .int .i64 0, .int .i64 0] 25 (0, 0))) := ⟨by rw [← hq_]; exact (bl_ BK365).out⟩; have n1_ : Aside0 (Below w.heap.size w w12) := ⟨by rw [← hq_]; exact (bw_ HB).out⟩; clear BK365 HB hq_; have BK365 := n0_; have HB := n1_; clear n0_ n1_))) | (refine ge_ 18 Try.func85 #[.int .i64 a2, .int .i64 t367] ?_; (with_reducible refine (impl_mod.calls a2 t367 t368 _ A7.out).mono ?_); rintro e w' ⟨rfl, ⟨nd, rfl⟩⟩; refine ⟨_, rfl, ?_⟩; (try (rw [drewN_self w12]; generalize hq_ : World.drewN w12 _ = w12; have n0_ : Aside0 (w12.heap[gb365]? = some (.cells #[.int .i64 0, .int .i64 0, .int .i64 0] 25 (0, 0))) := ⟨by rw [← hq_]; exact (bl_ BK365).out⟩; have n1_ : Aside0 (Below w.heap.size w w12) := ⟨by rw [← hq_]; exact (bw_ HB).out⟩; clear BK365 HB hq_; have BK365 := n0_; have HB := n1_; clear n0_ n1_))) | (refine ge_ 21 Try.func81 #[.int .i64 a0, .int .i64 t368] ?_; (with_reducible refine (impl_valuation.calls k a0 t368 t369 _ A8.out).mono ?_); rintro e w' ⟨rfl, ⟨nd, rfl⟩⟩; refine ⟨_, rfl, ?_⟩; (try (rw [drewN_self w12]; generalize hq_ : World.drewN w12 _ = w12; have n0_ : Aside0 (w12.heap[gb365]? = some (.cells #[.int .i64 0, .int .i64 0, .int .i64 0] 25 (0, 0))) := ⟨by rw [← hq_]; exact (bl_ BK365).out⟩; have n1_ : Aside0 (Below w.heap.size w w12) := ⟨by rw [← hq_]; exact (bw_ HB).out⟩; clear BK365 HB hq_; have BK365 := n0_; have HB := n1_; clear n0_ n1_))) | (refine ge_ 29 Try.func30 #[.int .i64 a0, .int .i64 (wrap64 (6 - (ji9)))] ?_ (hargs := by (try simp only [List.map_toArray, List.map_cons, List.map_nil]); first | done | (simp only [hji9]; rfl) | rfl | (simp only [List.length_drop, List.length_take]; rfl)); (with_reducible refine (impl_power.calls k a0 (wrap64 (6 - (ji9))) t370 _ A10.out).mono ?_); rintro e w' ⟨rfl, ⟨nd, rfl⟩⟩; refine ⟨_, rfl, ?_⟩; (try (rw [drewN_self w12]; generalize hq_ : World.drewN w12 _ = w12; have n0_ : Aside0 (w12.heap[gb365]? = some (.cells #[.int .i64 0, .int .i64 0, .int .i64 0] 25 (0, 0))) := ⟨by rw [← hq_]; exact (bl_ BK365).out⟩; have n1_ : Aside0 (Below w.heap.size w w12) := ⟨by rw [← hq_]; exact (bw_ HB).out⟩; clear BK365 HB hq_; have BK365 := n0_; have HB := n1_; clear n0_ n1_)); obtain ⟨hcz13_0, hcz13_1, hcz13_2, hfz13_0, hfz13_1, hfz13_2⟩ := ch3_ BK365))
   refine bodyPost_ret (results_ct rfl _ _ gb365 25 #[.int .i64 a1, .int .i64 (wrap64 (Int.tdiv t368 t370)), .int .i64 ji9] (0, 0) _ rfl (bp_ BK365).out Try.underlying25 rfl (by kernel_rfl)) rfl ?_
   exact ⟨by first | rfl | (simp [errW_none, errW_some] <;> rfl) | (simp only [← hji9]; first | rfl | (simp [errW_none, errW_some] <;> rfl)) | (simp [*, errW_none, errW_some] <;> rfl), (bw_ HB).out⟩
 ·replace c5 := Bool.eq_false_iff.mpr c5
  subst c5
  have H1 : (some (0, 0, 0, false)) = some (r1, r2, r3, r4) := by rw [if_neg (show ¬ (false = true) by decide)] at H; exact H
  clear H
  have H := H1
  clear H1
  simp only [Option.some.injEq, Prod.mk.injEq] at H
  obtain ⟨rfl, rfl, rfl, rfl⟩ := H
  go_enter Try.func64, Try.ntmps64
  go_wp2_with (first | (refine bx_ 6 #[.int .i64 0, .int .i64 0, .int .i64 0] 25 ?_; intro gb365 hg w14 hbox hb; have BK365 := Aside0.mk (hbox); have GW365 := bs_ HB hg; have GE365 := bs_ HB hg; replace HB := bt_ HB hb; clear hb hbox hg) | (refine ge_ 10 Try.func31 #[.int .i64 a1] ?_; (with_reducible refine (impl_isLevel.calls a1 false _ A4.out).mono ?_); rintro e w' ⟨rfl, ⟨nd, rfl⟩⟩; refine ⟨_, rfl, ?_⟩; (try (rw [drewN_self w14]; generalize hq_ : World.drewN w14 _ = w14; have n0_ : Aside0 (w14.heap[gb365]? = some (.cells #[.int .i64 0, .int .i64 0, .int .i64 0] 25 (0, 0))) := ⟨by rw [← hq_]; exact (bl_ BK365).out⟩; have n1_ : Aside0 (Below w.heap.size w w14) := ⟨by rw [← hq_]; exact (bw_ HB).out⟩; clear BK365 HB hq_; have BK365 := n0_; have HB := n1_; clear n0_ n1_)); obtain ⟨hcz15_0, hcz15_1, hcz15_2, hfz15_0, hfz15_1, hfz15_2⟩ := ch3_ BK365))
  refine bodyPost_ret (results_ct rfl _ _ gb365 25 #[.int .i64 0, .int .i64 0, .int .i64 0] (0, 0) _ rfl (bp_ BK365).out Try.underlying25 rfl (by kernel_rfl)) rfl ?_
  exact ⟨es_, (bw_ HB).out⟩
/-! ### bits_Mul64: function 106 -/
def bits_Mul64.f (a0 : Int) (a1 : Int) : Option (Int × Int) := some (IntKind.u64.wrap ((IntKind.u64.wrap ((IntKind.u64.wrap ((a0 / 4294967296) * (a1 / 4294967296))) + ((IntKind.u64.wrap ((IntKind.u64.wrap ((a0 / 4294967296) * (Go.bits .and .u64 a1 4294967295))) + ((IntKind.u64.wrap ((Go.bits .and .u64 a0 4294967295) * (Go.bits .and .u64 a1 4294967295))) / 4294967296))) / 4294967296))) + ((IntKind.u64.wrap ((Go.bits .and .u64 (IntKind.u64.wrap ((IntKind.u64.wrap ((a0 / 4294967296) * (Go.bits .and .u64 a1 4294967295))) + ((IntKind.u64.wrap ((Go.bits .and .u64 a0 4294967295) * (Go.bits .and .u64 a1 4294967295))) / 4294967296))) 4294967295) + (IntKind.u64.wrap ((Go.bits .and .u64 a0 4294967295) * (a1 / 4294967296))))) / 4294967296)), IntKind.u64.wrap (a0 * a1))
theorem bits_Mul64.calls (a0 : Int) (a1 : Int) (r1 : Int) (r2 : Int) (w : World) (h : bits_Mul64.f a0 a1 = some (r1, r2)) :
  Calls Try.prog 106 #[.int .u64 a0, .int .u64 a1] w fun e w' => e = .returned (.tuple #[.int .u64 r1, .int .u64 r2]) ∧ Drawn0 w w' := by
 have H : (some (IntKind.u64.wrap ((IntKind.u64.wrap ((IntKind.u64.wrap ((a0 / 4294967296) * (a1 / 4294967296))) + ((IntKind.u64.wrap ((IntKind.u64.wrap ((a0 / 4294967296) * (Go.bits .and .u64 a1 4294967295))) + ((IntKind.u64.wrap ((Go.bits .and .u64 a0 4294967295) * (Go.bits .and .u64 a1 4294967295))) / 4294967296))) / 4294967296))) + ((IntKind.u64.wrap ((Go.bits .and .u64 (IntKind.u64.wrap ((IntKind.u64.wrap ((a0 / 4294967296) * (Go.bits .and .u64 a1 4294967295))) + ((IntKind.u64.wrap ((Go.bits .and .u64 a0 4294967295) * (Go.bits .and .u64 a1 4294967295))) / 4294967296))) 4294967295) + (IntKind.u64.wrap ((Go.bits .and .u64 a0 4294967295) * (a1 / 4294967296))))) / 4294967296)), IntKind.u64.wrap (a0 * a1))) = some (r1, r2) := h
 clear h
 simp only [Option.some.injEq, Prod.mk.injEq] at H
 obtain ⟨rfl, rfl⟩ := H
 go_enter Try.func106, Try.ntmps106
 go_wp2
 go_ret2
 exact ⟨en_, de_⟩
/-! ### bits_LeadingZeros64: function 113 -/
def bits_LeadingZeros64.f (k : Nat) (a0 : Int) : Option (Int) := (bits_Len64.f k a0).bind fun t371 => (some (wrap64 (64 - t371)))
theorem bits_LeadingZeros64.calls (k : Nat) (a0 : Int) (r : Int) (w : World) (h : bits_LeadingZeros64.f k a0 = some r) :
  Calls Try.prog 113 #[.int .u64 a0] w fun e w' => e = .returned (.int .i64 r) ∧ Drawn0 w w' := by
 have H : ((bits_Len64.f k a0).bind fun t371 => (some (wrap64 (64 - t371)))) = some r := h
 clear h
 replace H := ob_ H
 obtain ⟨t371, A20, H⟩ := H
 have A2 := Aside0.mk A20
 clear A20
 obtain rfl := si_ H
 go_enter Try.func113, Try.ntmps113
 go_wp2_with (first | (refine ge_ 4 Try.func105 #[.int .u64 a0] ?_; (with_reducible refine (bits_Len64.calls k a0 t371 _ A2.out).mono ?_); rintro e w' ⟨rfl, ⟨nd, rfl⟩⟩; refine ⟨_, rfl, ?_⟩))
 go_ret
 exact ⟨en_, de_⟩
end Go.Proofs.Ytbldceikdajdlaa.QD
