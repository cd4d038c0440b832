import Derived.Test.YtbilincmcnnonaaQSx8
import Derived.Test.YtbilincmcnnonaaQSx42
import Derived.Test.YtbilincmcnnonaaQSx49
import Derived.Test.YtbilincmcnnonaaQSx64
namespace Go.Proofs.Ytbilincmcnnonaa.QS
set_option maxHeartbeats 8000000
set_option maxRecDepth 100000
open Go.RowKit Go.Proofs.YtbilincmcnnonaaW.PrintWords Go.Proofs.YtbilincmcnnonaaW.PrintLast Go.Proofs.YtbilincmcnnonaaW.PrintMore
attribute [local go_sem] isSome_setCell max2_int min2_int max_two min_two max_three min_three max_four min_four
set_option linter.unusedVariables false
set_option linter.unusedSimpArgs false

/-! ### impl_freeCode: function 120 -/
def impl_freeCode.j0 : Nat → Int → List (S26) → List (S59) → Bool → Option (Bool × Int)
 | 0, _, _, _, _ => none
 | k + 1, x0, x1, x2, x8 => if x8 = true then (some (false, 1)) else (if (x1.length : Int) < 1 then (some (false, 2)) else (if (x1.length : Int) > 4 then (some (false, 2)) else (if (x2.length : Int) = (wrap64 (2 * (x1.length : Int))) then ((impl_isFree.f k x0 x1 x2).bind fun bt403 => (some (bt403.1, bt403.2))) else (some (false, 2)))))
def impl_freeCode.f (k : Nat) (a0 : Int) (l1 : List (S26)) (l2 : List (S59)) : Option (Bool × Int) := (impl_areSides.f k a0 l2).bind fun t401 => (if t401 = true then ((impl_areMatrices.f k l1).bind fun t402 => (impl_freeCode.j0 k a0 l1 l2 (!t402))) else (impl_freeCode.j0 k a0 l1 l2 true))
theorem impl_freeCode.calls (k : Nat) (a0 : Int) (A1 : Option Addr) (c1 : Nat) (l1 : List (S26)) (A2 : Option Addr) (c2 : Nat) (l2 : List (S59)) (r1 : Bool) (r2 : Int) (w : World) (hr1 : Kd.C k26 w A1 l1.length l1) (hc1 : l1.length ≤ c1) (hr2 : Kd.C k59 w A2 l2.length l2) (hc2 : l2.length ≤ c2) (h : impl_freeCode.f k a0 l1 l2 = some (r1, r2)) :
  Calls Try.prog 120 #[.int .i64 a0, .slice A1 l1.length c1, .slice A2 l2.length c2] w fun e w' => e = .returned (.tuple #[.bool r1, .int .i64 r2]) ∧ Below w.heap.size w w' := by
 have HR1 := Aside0.mk hr1
 have HC1 := Aside0.mk hc1
 clear hr1 hc1
 have HR2 := Aside0.mk hr2
 have HC2 := Aside0.mk hc2
 clear hr2 hc2
 have HB := Aside0.mk (Below.refl w.heap.size w)
 have H : ((impl_areSides.f k a0 l2).bind fun t401 => (if t401 = true then ((impl_areMatrices.f k l1).bind fun t402 => (impl_freeCode.j0 k a0 l1 l2 (!t402))) else (impl_freeCode.j0 k a0 l1 l2 true))) = some (r1, r2) := h
 clear h
 have HC4 := Aside0.mk H
 clear H
 go_enter Try.func120, Try.ntmps120
 go_upto_region 1 with (fail)
 go_cut [8] (fun v8 wc => ∃ (kq : Nat) (x8_3 : Bool), v8 = .bool x8_3 ∧ Aside0 (impl_freeCode.j0 kq a0 l1 l2 x8_3 = some (r1, r2)) ∧ Aside0 (kq ≤ k) ∧ Aside0 (Below w.heap.size w wc))
 case first =>
  have H := HC4.out
  clear HC4
  replace H := ob_ H
  obtain ⟨t401, A50, H⟩ := H
  have A5 := Aside0.mk A50
  clear A50
  by_cases c6 : t401 = true
  ·subst c6
   have H1 : ((impl_areMatrices.f k l1).bind fun t402 => (impl_freeCode.j0 k a0 l1 l2 (!t402))) = some (r1, r2) := by rw [if_pos rfl] at H; exact H
   clear H
   have H := H1
   clear H1
   replace H := ob_ H
   obtain ⟨t402, A70, H⟩ := H
   have A7 := Aside0.mk A70
   clear A70
   have H' := Aside0.mk H
   clear H
   go_wp2_with (first | (refine ge_ 11 Try.func165 #[.int .i64 a0, .slice A2 l2.length c2] ?_; (with_reducible refine (impl_areSides.calls k a0 _ _ l2 true _ ?side1 ?side2 A5.out).mono ?_); (case side1 => exact ca_ (Kd.C_below HR2.out (bw_ HB).out)); (case side2 => exact HC2.out); rintro e w8 ⟨rfl, hb⟩; refine ⟨_, rfl, ?_⟩; replace HB := bt_ HB hb; (try clear hb); (try clear hb2); (try clear hk); (try clear hi)) | (go_at_call 68; (with_reducible refine (impl_areMatrices.calls k _ _ l1 t402 _ ?side1 ?side2 A7.out).mono ?_); (case side1 => exact ca_ (Kd.C_below HR1.out HB.out)); (case side2 => exact HC1.out); rintro e w9 ⟨rfl, hb⟩; replace HB := bt_ HB hb; (try clear hb); (try clear hb2); (try clear hk); (try clear hi)))
   go_meet
   case rel => exact ⟨_, (!t402), en_, H', ⟨by first | omega | exact Nat.le_refl _⟩, bw_ HB⟩
  ·replace c6 := Bool.eq_false_iff.mpr c6
   subst c6
   have H1 : (impl_freeCode.j0 k a0 l1 l2 true) = some (r1, r2) := by rw [if_neg (show ¬ (false = true) by decide)] at H; exact H
   clear H
   have H := H1
   clear H1
   have H' := Aside0.mk H
   clear H
   go_wp2_with (first | (refine ge_ 11 Try.func165 #[.int .i64 a0, .slice A2 l2.length c2] ?_; (with_reducible refine (impl_areSides.calls k a0 _ _ l2 false _ ?side1 ?side2 A5.out).mono ?_); (case side1 => exact ca_ (Kd.C_below HR2.out (bw_ HB).out)); (case side2 => exact HC2.out); rintro e w10 ⟨rfl, hb⟩; refine ⟨_, rfl, ?_⟩; replace HB := bt_ HB hb; (try clear hb); (try clear hb2); (try clear hk); (try clear hi)))
   go_meet
   case rel => exact ⟨_, (true), en_, H', ⟨by first | omega | exact Nat.le_refl _⟩, bw_ HB⟩
 case rest =>
  clear HC4
  try clear c1
  try clear c2
  try clear p2
  try clear c6
  obtain ⟨kq, x8_3, rfl, HA, HJ3, HB⟩ := hcut
  cases kq with
  | zero => exact absurd HA.out (by simp [impl_freeCode.j0])
  | succ kj3 =>
   have H := HA.out
   clear HA
   simp only [impl_freeCode.j0] at H
   by_cases c11 : x8_3 = true
   ·subst c11
    have H1 : (some (false, 1)) = some (r1, r2) := by rw [if_pos rfl] at H; exact H
    clear H
    have H := H1
    clear H1
    simp only [Option.some.injEq, Prod.mk.injEq] at H
    obtain ⟨rfl, rfl⟩ := H
    go_wp2
    go_ret2
    exact ⟨es_, (bw_ HB).out⟩
   ·replace c11 := Bool.eq_false_iff.mpr c11
    subst c11
    have H1 : (if (l1.length : Int) < 1 then (some (false, 2)) else (if (l1.length : Int) > 4 then (some (false, 2)) else (if (l2.length : Int) = (wrap64 (2 * (l1.length : Int))) then ((impl_isFree.f kj3 a0 l1 l2).bind fun bt403 => (some (bt403.1, bt403.2))) else (some (false, 2))))) = some (r1, r2) := by rw [if_neg (show ¬ (false = true) by decide)] at H; exact H
    clear H
    have H := H1
    clear H1
    by_cases c12 : (l1.length : Int) < 1
    ·rw [if_pos c12] at H
     have c12b0 : decide ((l1.length : Int) < 1) = true := decide_eq_true c12
     have c12b1 : decide (l1.length < 1) = true := decide_eq_true (by omega)
     clear c12
     simp only [Option.some.injEq, Prod.mk.injEq] at H
     obtain ⟨rfl, rfl⟩ := H
     go_wp2
     go_ret2
     exact ⟨es_, (bw_ HB).out⟩
    ·rw [if_neg c12] at H
     have c12b0 : decide ((l1.length : Int) < 1) = false := decide_eq_false c12
     have c12b1 : decide (l1.length < 1) = false := decide_eq_false (by omega)
     clear c12
     by_cases c13 : (l1.length : Int) > 4
     ·rw [if_pos c13] at H
      have c13b0 : decide (4 < (l1.length : Int)) = true := decide_eq_true c13
      have c13b1 : decide (4 < l1.length) = true := decide_eq_true (by omega)
      clear c13
      simp only [Option.some.injEq, Prod.mk.injEq] at H
      obtain ⟨rfl, rfl⟩ := H
      go_wp2
      go_ret2
      exact ⟨es_, (bw_ HB).out⟩
     ·rw [if_neg c13] at H
      have c13b0 : decide (4 < (l1.length : Int)) = false := decide_eq_false c13
      have c13b1 : decide (4 < l1.length) = false := decide_eq_false (by omega)
      clear c13
      by_cases c14 : (l2.length : Int) = (wrap64 (2 * (l1.length : Int)))
      ·rw [if_pos c14] at H
       have c14b0 : ((l2.length : Int) == (wrap64 (2 * (l1.length : Int)))) = true := beq_iff_eq.mpr c14
       have c14b1 : ((l2.length : Int) != (wrap64 (2 * (l1.length : Int)))) = false := bne_eq_false_iff_eq.mpr c14
       clear c14
       replace H := ob_ H
       obtain ⟨⟨t403, t404⟩, A150, H⟩ := H
       have A15 := Aside0.mk A150
       clear A150
       simp only [Option.some.injEq, Prod.mk.injEq] at H
       obtain ⟨rfl, rfl⟩ := H
       go_wp2_with (first | (refine ge_ 38 Try.func166 #[.int .i64 a0, .slice A1 l1.length c1, .slice A2 l2.length c2] ?_; (with_reducible refine (impl_isFree.calls kj3 a0 _ _ l1 _ _ l2 t403 t404 _ ?side1 ?side2 ?side3 ?side4 A15.out).mono ?_); (case side1 => exact ca_ (Kd.C_below HR1.out HB.out)); (case side2 => exact HC1.out); (case side3 => exact ca_ (Kd.C_below HR2.out HB.out)); (case side4 => exact HC2.out); rintro e w16 ⟨rfl, hb⟩; refine ⟨_, rfl, ?_⟩; replace HB := bt_ HB hb; (try clear hb); (try clear hb2); (try clear hk); (try clear hi)))
       go_ret2
       exact ⟨es_, (bw_ HB).out⟩
      ·rw [if_neg c14] at H
       have c14b0 : ((l2.length : Int) == (wrap64 (2 * (l1.length : Int)))) = false := beq_eq_false_iff_ne.mpr c14
       have c14b1 : ((l2.length : Int) != (wrap64 (2 * (l1.length : Int)))) = true := bne_iff_ne.mpr c14
       simp only [Option.some.injEq, Prod.mk.injEq] at H
       obtain ⟨rfl, rfl⟩ := H
       go_wp2
       go_ret2
       exact ⟨es_, (bw_ HB).out⟩
/-! ### impl_isWord: function 121 -/
def impl_isWord.l0 : Nat → Int → List Int → List Int → Int → Int → Option (Bool)
 | 0, _, _, _, _, _ => none
 | k + 1, x0, x1, x7, x8, x9 => if x9 < x8 then (if 0 ≤ x9 then (if x9 < (x7.length : Int) then (if (rd x7 x9) = 0 then (some false) else ((impl_within.f k x0 (([rd x7 x9] : List Int))).bind fun t409 => (if t409 = true then (impl_isWord.l0 k x0 x1 x7 x8 (wrap64 (x9 + 1))) else (some false)))) else (none)) else (none)) else (some (decide ((x1.length : Int) ≤ 12)))
def impl_isWord.f (k : Nat) (a0 : Int) (l1 : List Int) : Option (Bool) := impl_isWord.l0 k a0 l1 l1 (l1.length : Int) 0
theorem impl_isWord.calls (k : Nat) (a0 : Int) (A1 : Option Addr) (c1 : Nat) (l1 : List Int) (r : Bool) (w : World) (hr1 : Kd.C (Kd.int .i64) w A1 l1.length l1) (hc1 : l1.length ≤ c1) (h : impl_isWord.f k a0 l1 = some r) :
  Calls Try.prog 121 #[.int .i64 a0, .slice A1 l1.length c1] w fun e w' => e = .returned (.bool r) ∧ Below w.heap.size w w' := by
 have HR1 := Aside0.mk hr1
 have HC1 := Aside0.mk hc1
 clear hr1 hc1
 have HB := Aside0.mk (Below.refl w.heap.size w)
 have H : (impl_isWord.l0 k a0 l1 l1 (l1.length : Int) 0) = some r := h
 clear h
 have H' := Aside0.mk H
 clear H
 go_enter Try.func121, Try.ntmps121
 go_wp2
 go_loopg [9] k (fun kq v9 w' => ∃ (x9_1 : Int), v9 = .int .i64 x9_1 ∧ Aside0 (impl_isWord.l0 kq a0 l1 l1 (l1.length : Int) x9_1 = some r) ∧ Aside0 (kq ≤ k) ∧ Aside0 (Below w.heap.size w w'))
 case atStart => exact ⟨(0), en_, H', ⟨Nat.le_refl _⟩, bw_ HB⟩
 case round =>
  clear H'
  try clear c1
  try clear p2
  obtain ⟨x9_1, rfl, HA, HK1, HB⟩ := hrel
  cases gk with
  | zero => exact absurd HA.out (by simp [impl_isWord.l0])
  | succ k1 =>
   have H := HA.out
   clear HA
   simp only [impl_isWord.l0] at H
   by_cases c3 : x9_1 < (l1.length : Int)
   ·rw [if_pos c3] at H
    have c3b0 : decide (x9_1 < (l1.length : Int)) = true := decide_eq_true c3
    clear c3
    by_cases c4 : 0 ≤ x9_1
    ·rw [if_pos c4] at H
     have c4b0 : decide (0 ≤ x9_1) = true := decide_eq_true c4
     clear c4
     by_cases c5 : x9_1 < (l1.length : Int)
     ·rw [if_pos c5] at H
      have c5b0 : decide (x9_1 < (l1.length : Int)) = true := decide_eq_true c5
      clear c5
      by_cases c6 : (rd l1 x9_1) = 0
      ·rw [if_pos c6] at H
       have c6b0 : ((rd l1 x9_1) == 0) = true := beq_iff_eq.mpr c6
       have c6b1 : ((rd l1 x9_1) != 0) = false := bne_eq_false_iff_eq.mpr c6
       clear c6
       obtain rfl := si_ H
       have p405 : 0 ≤ (x9_1 : Int) := od_
       have q405 : x9_1 < (l1.length : Int) := od_
       obtain ⟨ad405, e405, hx405_0⟩ := Kd.at_int HR1.out x9_1 p405 q405
       cases e405
       replace hx405_0 := clTr HB.out hx405_0
       replace p405 := eq_true p405
       replace q405 := eq_true q405
       go_wp2
       go_ret
       exact ⟨es_, (bw_ HB).out⟩
      ·rw [if_neg c6] at H
       have c6b0 : ((rd l1 x9_1) == 0) = false := beq_eq_false_iff_ne.mpr c6
       have c6b1 : ((rd l1 x9_1) != 0) = true := bne_iff_ne.mpr c6
       obtain ⟨y406, hy406⟩ : ∃ y_ : List Int, y_ = (([rd l1 x9_1] : List Int)) := ⟨_, rfl⟩
       replace H : ((impl_within.f k1 a0 y406).bind fun t409 => (if t409 = true then (impl_isWord.l0 k1 a0 l1 l1 (l1.length : Int) (wrap64 (x9_1 + 1))) else (some false))) = some r := by first | (rw [hy406]; with_reducible exact H) | (have H2_ := (Option.bind_some _ _).symm.trans H; rw [hy406]; with_reducible exact H2_) | (have H2_ := (Option.bind_some _ _).symm.trans H; with_reducible exact H2_) | with_reducible exact H | (rw [hy406]; exact H) | exact H
       have Ny406 := Aside0.mk hy406
       clear hy406
       replace H := ob_ H
       obtain ⟨t409, A70, H⟩ := H
       have A7 := Aside0.mk A70
       clear A70
       by_cases c8 : t409 = true
       ·subst c8
        have H1 : (impl_isWord.l0 k1 a0 l1 l1 (l1.length : Int) (wrap64 (x9_1 + 1))) = some r := by rw [if_pos rfl] at H; exact H
        clear H
        have H := H1
        clear H1
        have H' := Aside0.mk H
        clear H
        have p405 : 0 ≤ (x9_1 : Int) := od_
        have q405 : x9_1 < (l1.length : Int) := od_
        obtain ⟨ad405, e405, hx405_0⟩ := Kd.at_int HR1.out x9_1 p405 q405
        cases e405
        replace hx405_0 := clTr HB.out hx405_0
        replace p405 := eq_true p405
        replace q405 := eq_true q405
        go_wp2_with (first | ((with_reducible refine gate_dst (N := 18) rfl ?_); (try (refine gate_guard (by rfl) ?_; dsimp only)); refine Kd.R_lit (Kd.int .i64) _ 2 ?hg (N := 18) ?hd (xs := ([rd l1 x9_1] : List Int)) (inner := [.int .i64 (rd l1 x9_1)]) (ok := fun _ => True) (okp := fun _ => True) ?hr ?hp (fun _ hk => hk) trivial (Below.refl _ _) (Nat.le_refl _) (by simp) ?_; (case hd => rfl); (case hg => rfl); (case hr => first | (go_simp; done) | (go_simp; rfl)); (case hp => exact (Reps.one (show Kd.M (Kd.int .i64) _ _ _ (rd l1 x9_1) [.int .i64 (rd l1 x9_1)] from rfl) (Reps.none _ _))); intro v407 w9 ho10 hb hg_ hnew_; clear hg_ hnew_; (first | rw [← Ny406.out] at ho10 | (simp only [Int.reduceToNat] at ho10; rw [← Ny406.out] at ho10)); have HO408 := Aside0.mk (Kd.R_lower ho10 (below_size (bw_ HB).out)); replace HB := bt_ HB hb; clear hb ho10; obtain ⟨Ao11, co11, eo11⟩ := Kd.R_slice HO408.out; subst eo11) | (go_at_call 73; (with_reducible refine (impl_within.calls k1 a0 _ _ y406 true _ ?side1 ?side2 A7.out).mono ?_); (case side1 => exact ca_ (Kd.R_reads' HO408.out).2.2); (case side2 => exact (Kd.R_reads' HO408.out).2.1); rintro e w' ⟨rfl, ⟨nd, rfl⟩⟩))
        go_roundg k1
        case measure => have := HK1.out; omega
        case rel => exact ⟨(wrap64 (x9_1 + 1)), en_, H', ⟨by have := HK1.out; omega⟩, bw_ HB⟩
       ·replace c8 := Bool.eq_false_iff.mpr c8
        subst c8
        have H1 : (some false) = some r := by rw [if_neg (show ¬ (false = true) by decide)] at H; exact H
        clear H
        have H := H1
        clear H1
        obtain rfl := si_ H
        have p405 : 0 ≤ (x9_1 : Int) := od_
        have q405 : x9_1 < (l1.length : Int) := od_
        obtain ⟨ad405, e405, hx405_0⟩ := Kd.at_int HR1.out x9_1 p405 q405
        cases e405
        replace hx405_0 := clTr HB.out hx405_0
        replace p405 := eq_true p405
        replace q405 := eq_true q405
        go_wp2_with (first | ((with_reducible refine gate_dst (N := 18) rfl ?_); (try (refine gate_guard (by rfl) ?_; dsimp only)); refine Kd.R_lit (Kd.int .i64) _ 2 ?hg (N := 18) ?hd (xs := ([rd l1 x9_1] : List Int)) (inner := [.int .i64 (rd l1 x9_1)]) (ok := fun _ => True) (okp := fun _ => True) ?hr ?hp (fun _ hk => hk) trivial (Below.refl _ _) (Nat.le_refl _) (by simp) ?_; (case hd => rfl); (case hg => rfl); (case hr => first | (go_simp; done) | (go_simp; rfl)); (case hp => exact (Reps.one (show Kd.M (Kd.int .i64) _ _ _ (rd l1 x9_1) [.int .i64 (rd l1 x9_1)] from rfl) (Reps.none _ _))); intro v407 w12 ho13 hb hg_ hnew_; clear hg_ hnew_; (first | rw [← Ny406.out] at ho13 | (simp only [Int.reduceToNat] at ho13; rw [← Ny406.out] at ho13)); have HO408 := Aside0.mk (Kd.R_lower ho13 (below_size (bw_ HB).out)); replace HB := bt_ HB hb; clear hb ho13; obtain ⟨Ao14, co14, eo14⟩ := Kd.R_slice HO408.out; subst eo14) | (go_at_call 73; (with_reducible refine (impl_within.calls k1 a0 _ _ y406 false _ ?side1 ?side2 A7.out).mono ?_); (case side1 => exact ca_ (Kd.R_reads' HO408.out).2.2); (case side2 => exact (Kd.R_reads' HO408.out).2.1); rintro e w' ⟨rfl, ⟨nd, rfl⟩⟩))
        go_ret
        exact ⟨es_, (bw_ HB).out⟩
     ·rw [if_neg c5] at H
      exact absurd H (by simp)
    ·rw [if_neg c4] at H
     exact absurd H (by simp)
   ·rw [if_neg c3] at H
    have c3b0 : decide (x9_1 < (l1.length : Int)) = false := decide_eq_false c3
    clear c3
    obtain rfl := si_ H
    go_wp2
    go_ret
    exact ⟨es_, (bw_ HB).out⟩
/-! ### impl_isShort: function 122 -/
def impl_isShort.l0 : Nat → List Int → Int → Option (Bool)
 | 0, _, _ => none
 | k + 1, x0, x3 => if x3 < (x0.length : Int) then (if 0 ≤ x3 then (if 0 ≤ (wrap64 (x3 - 1)) then (if (wrap64 (x3 - 1)) < (x0.length : Int) then (if (rd x0 x3) = (wrap64 (-(rd x0 (wrap64 (x3 - 1))))) then (some false) else (impl_isShort.l0 k x0 (wrap64 (x3 + 1)))) else (none)) else (none)) else (none)) else (some true)
def impl_isShort.f (k : Nat) (l0 : List Int) : Option (Bool) := impl_isShort.l0 k l0 1
theorem impl_isShort.calls (k : Nat) (A0 : Option Addr) (c0 : Nat) (l0 : List Int) (r : Bool) (w : World) (hr0 : Kd.C (Kd.int .i64) w A0 l0.length l0) (hc0 : l0.length ≤ c0) (h : impl_isShort.f k l0 = some r) :
  Calls Try.prog 122 #[.slice A0 l0.length c0] w fun e w' => e = .returned (.bool r) ∧ Drawn0 w w' := by
 have HR0 := Aside0.mk hr0
 have HC0 := Aside0.mk hc0
 clear hr0 hc0
 have H : (impl_isShort.l0 k l0 1) = some r := h
 clear h
 have H' := Aside0.mk H
 clear H
 go_enter Try.func122, Try.ntmps122
 go_wp2
 repeat (go_quiet (fail); try go_wp2)
 go_loopg [3] k (fun kq v3 w' => ∃ (x3_1 : Int), v3 = .int .i64 x3_1 ∧ Aside0 (impl_isShort.l0 kq l0 x3_1 = some r) ∧ Aside0 (kq ≤ k) ∧ Drawn0 w w')
 case atStart => exact ⟨(1), en_, H', ⟨Nat.le_refl _⟩, de_⟩
 case round =>
  clear H'
  try clear c1
  obtain ⟨x3_1, rfl, HA, HK1, ⟨m1, rfl⟩⟩ := hrel
  cases gk with
  | zero => exact absurd HA.out (by simp [impl_isShort.l0])
  | succ k1 =>
   have H := HA.out
   clear HA
   simp only [impl_isShort.l0] at H
   by_cases c2 : x3_1 < (l0.length : Int)
   ·rw [if_pos c2] at H
    have c2b0 : decide (x3_1 < (l0.length : Int)) = true := decide_eq_true c2
    clear c2
    by_cases c3 : 0 ≤ x3_1
    ·rw [if_pos c3] at H
     have c3b0 : decide (0 ≤ x3_1) = true := decide_eq_true c3
     clear c3
     obtain ⟨ji4, hji4⟩ : ∃ j_ : Int, (wrap64 (x3_1 - 1)) = j_ := ⟨_, rfl⟩
     replace H : (if 0 ≤ (ji4) then (if (ji4) < (l0.length : Int) then (if (rd l0 x3_1) = (wrap64 (-(rd l0 (ji4)))) then (some false) else (impl_isShort.l0 k1 l0 (wrap64 (x3_1 + 1)))) else (none)) else (none)) = some r := by first | (rw [hji4] at H; exact H) | (simp only [hji4] at H ⊢; exact H)
     have hji4w : (IntKind.i64.wrap (x3_1 - 1)) = ji4 := (i64_w _).trans hji4
     by_cases c5 : 0 ≤ (ji4)
     ·rw [if_pos c5] at H
      have c5b0 : decide (0 ≤ (ji4)) = true := decide_eq_true c5
      clear c5
      by_cases c6 : (ji4) < (l0.length : Int)
      ·rw [if_pos c6] at H
       have c6b0 : decide ((ji4) < (l0.length : Int)) = true := decide_eq_true c6
       clear c6
       by_cases c7 : (rd l0 x3_1) = (wrap64 (-(rd l0 (ji4))))
       ·rw [if_pos c7] at H
        have c7b0 : ((rd l0 x3_1) == (wrap64 (-(rd l0 (ji4))))) = true := beq_iff_eq.mpr c7
        have c7b1 : ((rd l0 x3_1) != (wrap64 (-(rd l0 (ji4))))) = false := bne_eq_false_iff_eq.mpr c7
        clear c7
        obtain rfl := si_ H
        have p410 : 0 ≤ (x3_1 : Int) := od_
        have q410 : x3_1 < (l0.length : Int) := od_
        obtain ⟨ad410, e410, hx410_0⟩ := Kd.at_int HR0.out x3_1 p410 q410
        cases e410
        replace p410 := eq_true p410
        replace q410 := eq_true q410
        have p411 : 0 ≤ ((ji4) : Int) := od_
        have q411 : (ji4) < (l0.length : Int) := od_
        obtain ⟨ad411, e411, hx411_0⟩ := Kd.at_int HR0.out (ji4) p411 q411
        obtain rfl : ad410 = ad411 := (by injection e411)
        replace p411 := eq_true p411
        replace q411 := eq_true q411
        go_wp2
        repeat (go_quiet (fail); try go_wp2)
        go_ret
        exact ⟨by first | rfl | (simp; done) | (simp only [← hji4] <;> (first | rfl | simp)) | (simp [*]; done), de_⟩
       ·rw [if_neg c7] at H
        have c7b0 : ((rd l0 x3_1) == (wrap64 (-(rd l0 (ji4))))) = false := beq_eq_false_iff_ne.mpr c7
        have c7b1 : ((rd l0 x3_1) != (wrap64 (-(rd l0 (ji4))))) = true := bne_iff_ne.mpr c7
        have H' := Aside0.mk H
        clear H
        have p410 : 0 ≤ (x3_1 : Int) := od_
        have q410 : x3_1 < (l0.length : Int) := od_
        obtain ⟨ad410, e410, hx410_0⟩ := Kd.at_int HR0.out x3_1 p410 q410
        cases e410
        replace p410 := eq_true p410
        replace q410 := eq_true q410
        have p411 : 0 ≤ ((ji4) : Int) := od_
        have q411 : (ji4) < (l0.length : Int) := od_
        obtain ⟨ad411, e411, hx411_0⟩ := Kd.at_int HR0.out (ji4) p411 q411
        obtain rfl : ad410 = ad411 := (by injection e411)
        replace p411 := eq_true p411
        replace q411 := eq_true q411
        go_wp2
        repeat (go_quiet (fail); try go_wp2)
        go_roundg k1
        case measure => have := HK1.out; omega
        case rel => exact ⟨(wrap64 (x3_1 + 1)), en_, H', ⟨by have := HK1.out; omega⟩, de_⟩
      ·rw [if_neg c6] at H
       exact absurd H (by simp)
     ·rw [if_neg c5] at H
      exact absurd H (by simp)
    ·rw [if_neg c3] at H
     exact absurd H (by simp)
   ·rw [if_neg c2] at H
    have c2b0 : decide (x3_1 < (l0.length : Int)) = false := decide_eq_false c2
    clear c2
    obtain rfl := si_ H
    go_wp2
    repeat (go_quiet (fail); try go_wp2)
    go_ret
    exact ⟨en_, de_⟩
/-! ### impl_letterSide: function 123 -/
def impl_letterSide.f (l0 : List (S59)) (a1 : Int) : Option (Int × Int × Int × Bool) := if a1 < 0 then (if 0 ≤ (wrap64 (2 * (wrap64 ((wrap64 (-a1)) - 1)))) then (if (wrap64 (2 * (wrap64 ((wrap64 (-a1)) - 1)))) < (l0.length : Int) then (some ((rd_T59 l0 (wrap64 (2 * (wrap64 ((wrap64 (-a1)) - 1))))).f0.f0, (rd_T59 l0 (wrap64 (2 * (wrap64 ((wrap64 (-a1)) - 1))))).f0.f1, (rd_T59 l0 (wrap64 (2 * (wrap64 ((wrap64 (-a1)) - 1))))).f0.f2, (rd_T59 l0 (wrap64 (2 * (wrap64 ((wrap64 (-a1)) - 1))))).f1)) else (none)) else (none)) else (if 0 ≤ (wrap64 ((wrap64 (2 * (wrap64 (a1 - 1)))) + 1)) then (if (wrap64 ((wrap64 (2 * (wrap64 (a1 - 1)))) + 1)) < (l0.length : Int) then (some ((rd_T59 l0 (wrap64 ((wrap64 (2 * (wrap64 (a1 - 1)))) + 1))).f0.f0, (rd_T59 l0 (wrap64 ((wrap64 (2 * (wrap64 (a1 - 1)))) + 1))).f0.f1, (rd_T59 l0 (wrap64 ((wrap64 (2 * (wrap64 (a1 - 1)))) + 1))).f0.f2, (rd_T59 l0 (wrap64 ((wrap64 (2 * (wrap64 (a1 - 1)))) + 1))).f1)) else (none)) else (none))
theorem impl_letterSide.calls (A0 : Option Addr) (c0 : Nat) (l0 : List (S59)) (a1 : Int) (r1 : Int) (r2 : Int) (r3 : Int) (r4 : Bool) (w : World) (hr0 : Kd.C k59 w A0 l0.length l0) (hc0 : l0.length ≤ c0) (h : impl_letterSide.f l0 a1 = some (r1, r2, r3, r4)) :
  Calls Try.prog 123 #[.slice A0 l0.length c0, .int .i64 a1] w fun e w' => e = .returned (.agg #[.int .i64 r1, .int .i64 r2, .int .i64 r3, .bool r4]) ∧ Below w.heap.size w w' := by
 have hu59 := Try.underlying59
 have HR0 := Aside0.mk hr0
 have HC0 := Aside0.mk hc0
 clear hr0 hc0
 have HB := Aside0.mk (Below.refl w.heap.size w)
 have H : (if a1 < 0 then (if 0 ≤ (wrap64 (2 * (wrap64 ((wrap64 (-a1)) - 1)))) then (if (wrap64 (2 * (wrap64 ((wrap64 (-a1)) - 1)))) < (l0.length : Int) then (some ((rd_T59 l0 (wrap64 (2 * (wrap64 ((wrap64 (-a1)) - 1))))).f0.f0, (rd_T59 l0 (wrap64 (2 * (wrap64 ((wrap64 (-a1)) - 1))))).f0.f1, (rd_T59 l0 (wrap64 (2 * (wrap64 ((wrap64 (-a1)) - 1))))).f0.f2, (rd_T59 l0 (wrap64 (2 * (wrap64 ((wrap64 (-a1)) - 1))))).f1)) else (none)) else (none)) else (if 0 ≤ (wrap64 ((wrap64 (2 * (wrap64 (a1 - 1)))) + 1)) then (if (wrap64 ((wrap64 (2 * (wrap64 (a1 - 1)))) + 1)) < (l0.length : Int) then (some ((rd_T59 l0 (wrap64 ((wrap64 (2 * (wrap64 (a1 - 1)))) + 1))).f0.f0, (rd_T59 l0 (wrap64 ((wrap64 (2 * (wrap64 (a1 - 1)))) + 1))).f0.f1, (rd_T59 l0 (wrap64 ((wrap64 (2 * (wrap64 (a1 - 1)))) + 1))).f0.f2, (rd_T59 l0 (wrap64 ((wrap64 (2 * (wrap64 (a1 - 1)))) + 1))).f1)) else (none)) else (none))) = some (r1, r2, r3, r4) := h
 clear h
 by_cases c3 : a1 < 0
 ·rw [if_pos c3] at H
  have c3b0 : decide (a1 < 0) = true := decide_eq_true c3
  clear c3
  obtain ⟨ji4, hji4⟩ : ∃ j_ : Int, (wrap64 (2 * (wrap64 ((wrap64 (-a1)) - 1)))) = j_ := ⟨_, rfl⟩
  replace H : (if 0 ≤ (ji4) then (if (ji4) < (l0.length : Int) then (some ((rd_T59 l0 (ji4)).f0.f0, (rd_T59 l0 (ji4)).f0.f1, (rd_T59 l0 (ji4)).f0.f2, (rd_T59 l0 (ji4)).f1)) else (none)) else (none)) = some (r1, r2, r3, r4) := by first | (rw [hji4] at H; exact H) | (simp only [hji4] at H ⊢; exact H)
  have hji4w : (IntKind.i64.wrap (2 * (wrap64 ((wrap64 (-a1)) - 1)))) = ji4 := (i64_w _).trans hji4
  by_cases c5 : 0 ≤ (ji4)
  ·rw [if_pos c5] at H
   have c5b0 : decide (0 ≤ (ji4)) = true := decide_eq_true c5
   clear c5
   by_cases c6 : (ji4) < (l0.length : Int)
   ·rw [if_pos c6] at H
    have c6b0 : decide ((ji4) < (l0.length : Int)) = true := decide_eq_true c6
    clear c6
    simp only [Option.some.injEq, Prod.mk.injEq] at H
    obtain ⟨rfl, rfl, rfl, rfl⟩ := H
    go_enter Try.func123, Try.ntmps123
    go_wp2_with (first | (refine bx_ 4 #[.int .i64 0, .int .i64 0, .int .i64 0, .bool false] 59 ?_; intro gb412 hg w7 hbox hb; have BK412 := Aside0.mk (hbox); have GW412 := bs_ HB hg; have GE412 := bs_ HB hg; replace HB := bt_ HB hb; clear hb hbox hg; have p413 : 0 ≤ ((ji4) : Int) := od_; have q413 : (ji4) < (l0.length : Int) := od_; obtain ⟨ad413, e413, hx413_0, hx413_1, hx413_2, hx413_3⟩ := at_T59 HR0.out (ji4) p413 q413; cases e413; replace hx413_0 := clTr HB.out hx413_0; replace hx413_1 := clTr HB.out hx413_1; replace hx413_2 := clTr HB.out hx413_2; replace hx413_3 := clTr HB.out hx413_3; replace p413 := eq_true p413; replace q413 := eq_true q413; obtain ⟨hcz8_0, hcz8_1, hcz8_2, hcz8_3, hfz8_0, hfz8_1, hfz8_2, hfz8_3⟩ := ch4_ BK412))
    refine bodyPost_ret (results_cell_row rfl _ _ gb412 59 #[.int .i64 ((rd_T59 l0 (ji4)).f0.f0), .int .i64 ((rd_T59 l0 (ji4)).f0.f1), .int .i64 ((rd_T59 l0 (ji4)).f0.f2), .bool ((rd_T59 l0 (ji4)).f1)] (0, 0) _ rfl (bp_ BK412).out Try.underlying59 rfl (by kernel_rfl)) rfl ?_
    exact ⟨by first | rfl | (simp [errW_none, errW_some] <;> rfl) | (simp only [← hji4]; first | rfl | (simp [errW_none, errW_some] <;> rfl)) | (simp [*, errW_none, errW_some] <;> rfl), (bw_ HB).out⟩
   ·rw [if_neg c6] at H
    exact absurd H (by simp)
  ·rw [if_neg c5] at H
   exact absurd H (by simp)
 ·rw [if_neg c3] at H
  have c3b0 : decide (a1 < 0) = false := decide_eq_false c3
  clear c3
  obtain ⟨ji9, hji9⟩ : ∃ j_ : Int, (wrap64 ((wrap64 (2 * (wrap64 (a1 - 1)))) + 1)) = j_ := ⟨_, rfl⟩
  replace H : (if 0 ≤ (ji9) then (if (ji9) < (l0.length : Int) then (some ((rd_T59 l0 (ji9)).f0.f0, (rd_T59 l0 (ji9)).f0.f1, (rd_T59 l0 (ji9)).f0.f2, (rd_T59 l0 (ji9)).f1)) else (none)) else (none)) = some (r1, r2, r3, r4) := by first | (rw [hji9] at H; exact H) | (simp only [hji9] at H ⊢; exact H)
  have hji9w : (IntKind.i64.wrap ((wrap64 (2 * (wrap64 (a1 - 1)))) + 1)) = ji9 := (i64_w _).trans hji9
  by_cases c10 : 0 ≤ (ji9)
  ·rw [if_pos c10] at H
   have c10b0 : decide (0 ≤ (ji9)) = true := decide_eq_true c10
   clear c10
   by_cases c11 : (ji9) < (l0.length : Int)
   ·rw [if_pos c11] at H
    have c11b0 : decide ((ji9) < (l0.length : Int)) = true := decide_eq_true c11
    clear c11
    simp only [Option.some.injEq, Prod.mk.injEq] at H
    obtain ⟨rfl, rfl, rfl, rfl⟩ := H
    go_enter Try.func123, Try.ntmps123
    go_wp2_with (first | (refine bx_ 4 #[.int .i64 0, .int .i64 0, .int .i64 0, .bool false] 59 ?_; intro gb412 hg w12 hbox hb; have BK412 := Aside0.mk (hbox); have GW412 := bs_ HB hg; have GE412 := bs_ HB hg; replace HB := bt_ HB hb; clear hb hbox hg; have p414 : 0 ≤ ((ji9) : Int) := od_; have q414 : (ji9) < (l0.length : Int) := od_; obtain ⟨ad414, e414, hx414_0, hx414_1, hx414_2, hx414_3⟩ := at_T59 HR0.out (ji9) p414 q414; cases e414; replace hx414_0 := clTr HB.out hx414_0; replace hx414_1 := clTr HB.out hx414_1; replace hx414_2 := clTr HB.out hx414_2; replace hx414_3 := clTr HB.out hx414_3; replace p414 := eq_true p414; replace q414 := eq_true q414; obtain ⟨hcz13_0, hcz13_1, hcz13_2, hcz13_3, hfz13_0, hfz13_1, hfz13_2, hfz13_3⟩ := ch4_ BK412))
    refine bodyPost_ret (results_cell_row rfl _ _ gb412 59 #[.int .i64 ((rd_T59 l0 (ji9)).f0.f0), .int .i64 ((rd_T59 l0 (ji9)).f0.f1), .int .i64 ((rd_T59 l0 (ji9)).f0.f2), .bool ((rd_T59 l0 (ji9)).f1)] (0, 0) _ rfl (bp_ BK412).out Try.underlying59 rfl (by kernel_rfl)) rfl ?_
    exact ⟨by first | rfl | (simp [errW_none, errW_some] <;> rfl) | (simp only [← hji9]; first | rfl | (simp [errW_none, errW_some] <;> rfl)) | (simp [*, errW_none, errW_some] <;> rfl), (bw_ HB).out⟩
   ·rw [if_neg c11] at H
    exact absurd H (by simp)
  ·rw [if_neg c10] at H
   exact absurd H (by simp)
/-! ### impl_gcd: function 186 -/
def impl_gcd.l0 : Nat → Int → Int → Option (Int)
 | 0, _, _ => none
 | k + 1, x0, x1 => if x1 = 0 then (some (mx x0 (wrap64 (-x0)))) else (impl_gcd.l0 k x1 (Int.tmod x0 x1))
def impl_gcd.f (k : Nat) (a0 : Int) (a1 : Int) : Option (Int) := impl_gcd.l0 k a0 a1
theorem impl_gcd.calls (k : Nat) (a0 : Int) (a1 : Int) (r : Int) (w : World) (h : impl_gcd.f k a0 a1 = some r) :
  Calls Try.prog 186 #[.int .i64 a0, .int .i64 a1] w fun e w' => e = .returned (.int .i64 r) ∧ Below w.heap.size w w' := by
 have HB := Aside0.mk (Below.refl w.heap.size w)
 have H : (impl_gcd.l0 k a0 a1) = some r := h
 clear h
 have H' := Aside0.mk H
 clear H
 go_enter Try.func186, Try.ntmps186
 go_wp2
 repeat (go_quiet (fail); try go_wp2)
 go_loopg [0, 1] k (fun kq v0 v1 w' => ∃ (x0_1 : Int) (x1_1 : Int), v0 = .int .i64 x0_1 ∧ v1 = .int .i64 x1_1 ∧ Aside0 (impl_gcd.l0 kq x0_1 x1_1 = some r) ∧ Aside0 (kq ≤ k) ∧ Aside0 (Below w.heap.size w w'))
 case atStart => exact ⟨(a0), (a1), en_, en_, H', ⟨Nat.le_refl _⟩, bw_ HB⟩
 case round =>
  clear H'
  try clear c1
  try clear p2
  obtain ⟨x0_1, x1_1, rfl, rfl, HA, HK1, HB⟩ := hrel
  cases gk with
  | zero => exact absurd HA.out (by simp [impl_gcd.l0])
  | succ k1 =>
   have H := HA.out
   clear HA
   simp only [impl_gcd.l0] at H
   by_cases c3 : x1_1 = 0
   ·rw [if_pos c3] at H
    have c3b0 : (x1_1 == 0) = true := beq_iff_eq.mpr c3
    have c3b1 : (x1_1 != 0) = false := bne_eq_false_iff_eq.mpr c3
    clear c3
    obtain ⟨ji4, hji4⟩ : ∃ j_ : Int, (mx x0_1 (wrap64 (-x0_1))) = j_ := ⟨_, rfl⟩
    replace H : (some ji4) = some r := by first | (rw [hji4] at H; exact H) | (simp only [hji4] at H ⊢; exact H)
    have hji4_k : (if x0_1 < (IntKind.i64.wrap (-x0_1)) then (IntKind.i64.wrap (-x0_1)) else x0_1) = ji4 := by simp only [i64_w]; exact hji4
    have hji4_ : (if x0_1 < (wrap64 (-x0_1)) then (wrap64 (-x0_1)) else x0_1) = ji4 := hji4
    obtain rfl := si_ H
    go_wp2
    repeat (go_quiet (fail); try go_wp2)
    go_ret
    exact ⟨by first | rfl | (simp [errW_none, errW_some] <;> rfl) | (simp only [← hji4]; first | rfl | (simp [errW_none, errW_some] <;> rfl)) | (simp [*, errW_none, errW_some] <;> rfl), (bw_ HB).out⟩
   ·rw [if_neg c3] at H
    have c3b0 : (x1_1 == 0) = false := beq_eq_false_iff_ne.mpr c3
    have c3b1 : (x1_1 != 0) = true := bne_iff_ne.mpr c3
    have H' := Aside0.mk H
    clear H
    go_wp2
    repeat (go_quiet (fail); try go_wp2)
    go_roundg k1
    case measure => have := HK1.out; omega
    case rel => exact ⟨(x1_1), (Int.tmod x0_1 x1_1), en_, en_, H', ⟨by have := HK1.out; omega⟩, bw_ HB⟩
end Go.Proofs.Ytbilincmcnnonaa.QS
