-- Written by a program of this session out of Lean's own print of the loaded program; Lean checks it.
import Derived.Test.YtojpcbbmbnmchaaQCx4
import Derived.Test.YtojpcbbmbnmchaaQCx89
import Derived.Test.YtojpcbbmbnmchaaQCx90
import Derived.Test.YtojpcbbmbnmchaaQCx96
import Derived.Test.YtojpcbbmbnmchaaQCx7
namespace Go.Proofs.Ytojpcbbmbnmchaa.QC
open Go.RowKit Go.Proofs.YtojpcbbmbnmchaaW.PrintWords Go.Proofs.YtojpcbbmbnmchaaW.PrintLast Go.Proofs.YtojpcbbmbnmchaaW.PrintMore
attribute [local go_sem] isSome_setCell max2_int min2_int max_two min_two max_three min_three max_four min_four   -- for this text's walks alone
set_option linter.unusedVariables false
set_option linter.unusedSimpArgs false

/-! ### impl_freeCode: function 58 -/
def impl_freeCode.j0 : Nat → Int → List (S33) → List (S30) → Bool → Option (Bool × Int)
 | 0, _, _, _, _ => none
 | k + 1, x0, x1, x2, x8 => if x8 = true then (some (false, 1)) else (if (x1.length : Int) < 1 then (some (false, 2)) else (if (x1.length : Int) > 4 then (some (false, 2)) else (if (x2.length : Int) = (wrap64 (2 * (x1.length : Int))) then ((impl_isFree.f k x0 x1 x2).bind fun bt736 => (some (bt736.1, bt736.2))) else (some (false, 2)))))
def impl_freeCode.f (k : Nat) (a0 : Int) (l1 : List (S33)) (l2 : List (S30)) : Option (Bool × Int) := (impl_areSides.f k a0 l2).bind fun t734 => (if t734 = true then ((impl_areMatrices.f k l1).bind fun t735 => (impl_freeCode.j0 k a0 l1 l2 (!t735))) else (impl_freeCode.j0 k a0 l1 l2 true))
set_option maxHeartbeats 8000000 in
set_option maxRecDepth 100000 in
theorem impl_freeCode.calls (k : Nat) (a0 : Int) (A1 : Option Addr) (c1 : Nat) (l1 : List (S33)) (A2 : Option Addr) (c2 : Nat) (l2 : List (S30)) (r1 : Bool) (r2 : Int) (w : World) (hr1 : Kd.C k33 w A1 l1.length l1) (hc1 : l1.length ≤ c1) (hr2 : Kd.C k30 w A2 l2.length l2) (hc2 : l2.length ≤ c2) (h : impl_freeCode.f k a0 l1 l2 = some (r1, r2)) :
  Calls Try.prog 58 #[.int .i64 a0, .slice A1 l1.length c1, .slice A2 l2.length c2] w fun e w' => e = .returned (.tuple #[.bool r1, .int .i64 r2]) ∧ Below w.heap.size w w' := by
 have HR1 := Aside0.mk hr1
 have HC1 := Aside0.mk hc1
 clear hr1 hc1
 have HR2 := Aside0.mk hr2
 have HC2 := Aside0.mk hc2
 clear hr2 hc2
 have HB := Aside0.mk (Below.refl w.heap.size w)
 have H : ((impl_areSides.f k a0 l2).bind fun t734 => (if t734 = true then ((impl_areMatrices.f k l1).bind fun t735 => (impl_freeCode.j0 k a0 l1 l2 (!t735))) else (impl_freeCode.j0 k a0 l1 l2 true))) = some (r1, r2) := h
 clear h
 have HC4 := Aside0.mk H
 clear H
 go_enter Try.func58, Try.ntmps58
 go_upto_region 1 with (fail)
 go_cut [8] (fun v8 wc => ∃ (kq : Nat) (x8_3 : Bool), v8 = .bool x8_3 ∧ Aside0 (impl_freeCode.j0 kq a0 l1 l2 x8_3 = some (r1, r2)) ∧ Aside0 (kq ≤ k) ∧ Aside0 (Below w.heap.size w wc))
 case first =>
  have H := HC4.out
  clear HC4
  replace H := Option.bind_eq_some_iff.mp H
  obtain ⟨t734, A50, H⟩ := H
  have A5 := Aside0.mk A50
  clear A50
  by_cases c6 : t734 = true
  ·subst c6
   have H1 : ((impl_areMatrices.f k l1).bind fun t735 => (impl_freeCode.j0 k a0 l1 l2 (!t735))) = some (r1, r2) := by rw [if_pos rfl] at H; exact H
   clear H
   have H := H1
   clear H1
   replace H := Option.bind_eq_some_iff.mp H
   obtain ⟨t735, A70, H⟩ := H
   have A7 := Aside0.mk A70
   clear A70
   have H' := Aside0.mk H
   clear H
   go_wp2_with (first | ((with_reducible refine gate_callee (f := 38) rfl ?_); refine goesL_ (some 11) rfl rfl Try.func38 (by kernel_rfl) rfl #[.int .i64 a0, .slice A2 l2.length c2] rfl (by (try simp only [List.map_toArray, List.map_cons, List.map_nil]); first | done | rfl | (simp only [List.length_drop, List.length_take]; rfl)) ?_; (with_reducible refine (impl_areSides.calls k a0 _ _ l2 true _ ?side1 ?side2 A5.out).mono ?_); (case side1 => repeat (first | exact (Kd.C_below HR2.out (bw_ HB).out) | (with_reducible refine Kd.C_alloc ?_ _) | (with_reducible refine Kd.C_drewN ?_ _) | (with_reducible refine Kd.C_drew ?_))); (case side2 => exact HC2.out); rintro e w8 ⟨rfl, hb⟩; refine ⟨_, rfl, ?_⟩; replace HB := bt_ HB hb; (try clear hb); (try clear hb2); (try clear hk); (try clear hi)) | (go_at_call 93; (with_reducible refine (impl_areMatrices.calls k _ _ l1 t735 _ ?side1 ?side2 A7.out).mono ?_); (case side1 => repeat (first | exact (Kd.C_below HR1.out HB.out) | (with_reducible refine Kd.C_alloc ?_ _) | (with_reducible refine Kd.C_drewN ?_ _) | (with_reducible refine Kd.C_drew ?_))); (case side2 => exact HC1.out); rintro e w9 ⟨rfl, hb⟩; replace HB := bt_ HB hb; (try clear hb); (try clear hb2); (try clear hk); (try clear hi)))
   go_meet
   case rel => exact ⟨_, (!t735), (by first | rfl | (simp; done) | (simp [*]; done) | (simp [wrap64]; done)), H', ⟨by first | omega | exact Nat.le_refl _⟩, bw_ HB⟩
  ·replace c6 := Bool.eq_false_iff.mpr c6
   subst c6
   have H1 : (impl_freeCode.j0 k a0 l1 l2 true) = some (r1, r2) := by rw [if_neg (show ¬ (false = true) by decide)] at H; exact H
   clear H
   have H := H1
   clear H1
   have H' := Aside0.mk H
   clear H
   go_wp2_with (first | ((with_reducible refine gate_callee (f := 38) rfl ?_); refine goesL_ (some 11) rfl rfl Try.func38 (by kernel_rfl) rfl #[.int .i64 a0, .slice A2 l2.length c2] rfl (by (try simp only [List.map_toArray, List.map_cons, List.map_nil]); first | done | rfl | (simp only [List.length_drop, List.length_take]; rfl)) ?_; (with_reducible refine (impl_areSides.calls k a0 _ _ l2 false _ ?side1 ?side2 A5.out).mono ?_); (case side1 => repeat (first | exact (Kd.C_below HR2.out (bw_ HB).out) | (with_reducible refine Kd.C_alloc ?_ _) | (with_reducible refine Kd.C_drewN ?_ _) | (with_reducible refine Kd.C_drew ?_))); (case side2 => exact HC2.out); rintro e w10 ⟨rfl, hb⟩; refine ⟨_, rfl, ?_⟩; replace HB := bt_ HB hb; (try clear hb); (try clear hb2); (try clear hk); (try clear hi)))
   go_meet
   case rel => exact ⟨_, (true), (by first | rfl | (simp; done) | (simp [*]; done) | (simp [wrap64]; done)), H', ⟨by first | omega | exact Nat.le_refl _⟩, bw_ HB⟩
 case rest =>
  clear HC4
  try clear c1
  try clear c2
  try clear p2
  try clear c3
  try clear c5
  try clear c6
  obtain ⟨kq, x8_3, rfl, HA, HJ3, HB⟩ := hcut
  cases kq with
  | zero => exact absurd HA.out (by simp [impl_freeCode.j0])
  | succ kj3 =>
   have H := HA.out
   clear HA
   simp only [impl_freeCode.j0] at H
   by_cases c11 : x8_3 = true
   ·subst c11
    have H1 : (some (false, 1)) = some (r1, r2) := by rw [if_pos rfl] at H; exact H
    clear H
    have H := H1
    clear H1
    simp only [Option.some.injEq, Prod.mk.injEq] at H
    obtain ⟨rfl, rfl⟩ := H
    go_wp2
    go_ret2
    exact ⟨by first | rfl | (simp [errW_none, errW_some] <;> rfl) | (simp [*, errW_none, errW_some] <;> rfl), by repeat (first | (with_reducible first | exact HB.out | apply below_alloc | apply pw_below_drewN | apply below_drew1) | exact HB.out)⟩
   ·replace c11 := Bool.eq_false_iff.mpr c11
    subst c11
    have H1 : (if (l1.length : Int) < 1 then (some (false, 2)) else (if (l1.length : Int) > 4 then (some (false, 2)) else (if (l2.length : Int) = (wrap64 (2 * (l1.length : Int))) then ((impl_isFree.f kj3 a0 l1 l2).bind fun bt736 => (some (bt736.1, bt736.2))) else (some (false, 2))))) = some (r1, r2) := by rw [if_neg (show ¬ (false = true) by decide)] at H; exact H
    clear H
    have H := H1
    clear H1
    by_cases c12 : (l1.length : Int) < 1
    ·rw [if_pos c12] at H
     have c12b0 : decide ((l1.length : Int) < 1) = true := decide_eq_true c12
     have c12b1 : decide (l1.length < 1) = true := decide_eq_true (by omega)
     clear c12
     simp only [Option.some.injEq, Prod.mk.injEq] at H
     obtain ⟨rfl, rfl⟩ := H
     go_wp2
     go_ret2
     exact ⟨by first | rfl | (simp [errW_none, errW_some] <;> rfl) | (simp [*, errW_none, errW_some] <;> rfl), by repeat (first | (with_reducible first | exact HB.out | apply below_alloc | apply pw_below_drewN | apply below_drew1) | exact HB.out)⟩
    ·rw [if_neg c12] at H
     have c12b0 : decide ((l1.length : Int) < 1) = false := decide_eq_false c12
     have c12b1 : decide (l1.length < 1) = false := decide_eq_false (by omega)
     clear c12
     by_cases c13 : (l1.length : Int) > 4
     ·rw [if_pos c13] at H
      have c13b0 : decide (4 < (l1.length : Int)) = true := decide_eq_true c13
      have c13b1 : decide (4 < l1.length) = true := decide_eq_true (by omega)
      clear c13
      simp only [Option.some.injEq, Prod.mk.injEq] at H
      obtain ⟨rfl, rfl⟩ := H
      go_wp2
      go_ret2
      exact ⟨by first | rfl | (simp [errW_none, errW_some] <;> rfl) | (simp [*, errW_none, errW_some] <;> rfl), by repeat (first | (with_reducible first | exact HB.out | apply below_alloc | apply pw_below_drewN | apply below_drew1) | exact HB.out)⟩
     ·rw [if_neg c13] at H
      have c13b0 : decide (4 < (l1.length : Int)) = false := decide_eq_false c13
      have c13b1 : decide (4 < l1.length) = false := decide_eq_false (by omega)
      clear c13
      by_cases c14 : (l2.length : Int) = (wrap64 (2 * (l1.length : Int)))
      ·rw [if_pos c14] at H
       have c14b0 : ((l2.length : Int) == (wrap64 (2 * (l1.length : Int)))) = true := beq_iff_eq.mpr c14
       have c14b1 : ((l2.length : Int) != (wrap64 (2 * (l1.length : Int)))) = false := bne_eq_false_iff_eq.mpr c14
       clear c14
       replace H := Option.bind_eq_some_iff.mp H
       obtain ⟨⟨t736, t737⟩, A150, H⟩ := H
       have A15 := Aside0.mk A150
       clear A150
       simp only [Option.some.injEq, Prod.mk.injEq] at H
       obtain ⟨rfl, rfl⟩ := H
       go_wp2_with (first | ((with_reducible refine gate_callee (f := 94) rfl ?_); refine goesL_ (some 38) rfl rfl Try.func94 (by kernel_rfl) rfl #[.int .i64 a0, .slice A1 l1.length c1, .slice A2 l2.length c2] rfl (by (try simp only [List.map_toArray, List.map_cons, List.map_nil]); first | done | rfl | (simp only [List.length_drop, List.length_take]; rfl)) ?_; (with_reducible refine (impl_isFree.calls kj3 a0 _ _ l1 _ _ l2 t736 t737 _ ?side1 ?side2 ?side3 ?side4 A15.out).mono ?_); (case side1 => repeat (first | exact (Kd.C_below HR1.out HB.out) | (with_reducible refine Kd.C_alloc ?_ _) | (with_reducible refine Kd.C_drewN ?_ _) | (with_reducible refine Kd.C_drew ?_))); (case side2 => exact HC1.out); (case side3 => repeat (first | exact (Kd.C_below HR2.out HB.out) | (with_reducible refine Kd.C_alloc ?_ _) | (with_reducible refine Kd.C_drewN ?_ _) | (with_reducible refine Kd.C_drew ?_))); (case side4 => exact HC2.out); rintro e w16 ⟨rfl, hb⟩; refine ⟨_, rfl, ?_⟩; replace HB := bt_ HB hb; (try clear hb); (try clear hb2); (try clear hk); (try clear hi)))
       go_ret2
       exact ⟨by first | rfl | (simp [errW_none, errW_some] <;> rfl) | (simp [*, errW_none, errW_some] <;> rfl), by repeat (first | (with_reducible first | exact HB.out | apply below_alloc | apply pw_below_drewN | apply below_drew1) | exact HB.out)⟩
      ·rw [if_neg c14] at H
       have c14b0 : ((l2.length : Int) == (wrap64 (2 * (l1.length : Int)))) = false := beq_eq_false_iff_ne.mpr c14
       have c14b1 : ((l2.length : Int) != (wrap64 (2 * (l1.length : Int)))) = true := bne_iff_ne.mpr c14
       simp only [Option.some.injEq, Prod.mk.injEq] at H
       obtain ⟨rfl, rfl⟩ := H
       go_wp2
       go_ret2
       exact ⟨by first | rfl | (simp [errW_none, errW_some] <;> rfl) | (simp [*, errW_none, errW_some] <;> rfl), by repeat (first | (with_reducible first | exact HB.out | apply below_alloc | apply pw_below_drewN | apply below_drew1) | exact HB.out)⟩
/-! ### laws_eqMatrixS: function 27 -/
def laws_eqMatrixS.l0 : Nat → List (S33) → List (S33) → Int → Option (Bool)
 | 0, _, _, _ => none
 | k + 1, x0, x1, x5 => if x5 < (x0.length : Int) then (if 0 ≤ x5 then (if x5 < (x1.length : Int) then ((laws_eqMatrix.f k ((rd_T33 x0 x5).f0.f0) ((rd_T33 x0 x5).f0.f1) ((rd_T33 x0 x5).f1.f0) ((rd_T33 x0 x5).f1.f1) ((rd_T33 x1 x5).f0.f0) ((rd_T33 x1 x5).f0.f1) ((rd_T33 x1 x5).f1.f0) ((rd_T33 x1 x5).f1.f1)).bind fun t742 => (if t742 = true then (laws_eqMatrixS.l0 k x0 x1 (wrap64 (x5 + 1))) else (some false))) else (none)) else (none)) else (some true)
def laws_eqMatrixS.f (k : Nat) (l0 : List (S33)) (l1 : List (S33)) : Option (Bool) := if (l0.length : Int) = (l1.length : Int) then (laws_eqMatrixS.l0 k l0 l1 0) else (some false)
def laws_eqMatrixS.T6 : Bool × List (List Nat × List Nat) := (true, [([], []), ([], []), ([0, 1], [0, 1]), ([2], [2]), ([], []), ([], []), ([4, 5], [4, 5]), ([6], [6]), ([3, 7], [3, 7]), ([8], [8])])
def laws_eqMatrixS.B6 : List Nat := [0, 0, 3, 7, 0, 0, 48, 112, 255, 511]
theorem laws_eqMatrixS.tab6 : rtab .any (opsOf Try.f27 6) = laws_eqMatrixS.T6 := by kernel_rfl
theorem laws_eqMatrixS.bits6 : waitsOk laws_eqMatrixS.T6.2 laws_eqMatrixS.B6 = true := by kernel_rfl
set_option maxHeartbeats 8000000 in
set_option maxRecDepth 100000 in
theorem laws_eqMatrixS.calls (k : Nat) (A0 : Option Addr) (c0 : Nat) (l0 : List (S33)) (A1 : Option Addr) (c1 : Nat) (l1 : List (S33)) (r : Bool) (w : World) (hr0 : Kd.C k33 w A0 l0.length l0) (hc0 : l0.length ≤ c0) (hr1 : Kd.C k33 w A1 l1.length l1) (hc1 : l1.length ≤ c1) (h : laws_eqMatrixS.f k l0 l1 = some r) :
  Calls Try.prog 27 #[.slice A0 l0.length c0, .slice A1 l1.length c1] w fun e w' => e = .returned (.bool r) ∧ Below w.heap.size w w' := by
 have hu33 := Try.underlying33
 have HR0 := Aside0.mk hr0
 have HC0 := Aside0.mk hc0
 clear hr0 hc0
 have HR1 := Aside0.mk hr1
 have HC1 := Aside0.mk hc1
 clear hr1 hc1
 have HB := Aside0.mk (Below.refl w.heap.size w)
 have H : (if (l0.length : Int) = (l1.length : Int) then (laws_eqMatrixS.l0 k l0 l1 0) else (some false)) = some r := h
 clear h
 by_cases c3 : (l0.length : Int) = (l1.length : Int)
 ·rw [if_pos c3] at H
  have c3b0 : ((l0.length : Int) == (l1.length : Int)) = true := beq_iff_eq.mpr c3
  have c3b1 : ((l0.length : Int) != (l1.length : Int)) = false := bne_eq_false_iff_eq.mpr c3
  have c3b2 : (l0.length == l1.length) = true := by first | simpa using c3 | (simp at c3 ⊢; omega)
  clear c3
  have H' := Aside0.mk H
  clear H
  go_enter Try.func27, Try.ntmps27
  go_wp2
  go_loopg [5] k (fun kq v5 w' => ∃ (x5_1 : Int), v5 = .int .i64 x5_1 ∧ Aside0 (laws_eqMatrixS.l0 kq l0 l1 x5_1 = some r) ∧ Aside0 (kq ≤ k) ∧ Aside0 (Below w.heap.size w w'))
  case atStart => exact ⟨(0), (by first | rfl | (simp; done) | (simp [*]; done) | (simp [wrap64]; done)), H', ⟨Nat.le_refl _⟩, bw_ HB⟩
  case round =>
   clear H'
   try clear c1
   try clear c2
   try clear p2
   try clear c3
   try clear c3b0
   try clear c3b1
   try clear c3b2
   obtain ⟨x5_1, rfl, HA, HK1, HB⟩ := hrel
   cases gk with
   | zero => exact absurd HA.out (by simp [laws_eqMatrixS.l0])
   | succ k1 =>
    have H := HA.out
    clear HA
    simp only [laws_eqMatrixS.l0] at H
    by_cases c4 : x5_1 < (l0.length : Int)
    ·rw [if_pos c4] at H
     have c4b0 : decide (x5_1 < (l0.length : Int)) = true := decide_eq_true c4
     clear c4
     by_cases c5 : 0 ≤ x5_1
     ·rw [if_pos c5] at H
      have c5b0 : decide (0 ≤ x5_1) = true := decide_eq_true c5
      clear c5
      by_cases c6 : x5_1 < (l1.length : Int)
      ·rw [if_pos c6] at H
       have c6b0 : decide (x5_1 < (l1.length : Int)) = true := decide_eq_true c6
       clear c6
       replace H := Option.bind_eq_some_iff.mp H
       obtain ⟨t742, A70, H⟩ := H
       have A7 := Aside0.mk A70
       clear A70
       by_cases c8 : t742 = true
       ·subst c8
        have H1 : (laws_eqMatrixS.l0 k1 l0 l1 (wrap64 (x5_1 + 1))) = some r := by rw [if_pos rfl] at H; exact H
        clear H
        have H := H1
        clear H1
        have H' := Aside0.mk H
        clear H
        try go_wp2
        replace HB := Aside0.mk (below_drew1 HB.out)
        have p740 : 0 ≤ (x5_1 : Int) := of_decide_eq_true (by first | (with_reducible assumption) | assumption)
        have q740 : x5_1 < (l0.length : Int) := of_decide_eq_true (by first | (with_reducible assumption) | assumption)
        obtain ⟨ad740, e740, hx740_0, hx740_1, hx740_2, hx740_3⟩ := at_T33 HR0.out x5_1 p740 q740
        have hw740_3 := hx740_3
        have hw740_2 := hx740_2
        have hw740_1 := hx740_1
        have hw740_0 := hx740_0
        cases e740
        replace hx740_0 := clTr HB.out hx740_0
        replace hx740_1 := clTr HB.out hx740_1
        replace hx740_2 := clTr HB.out hx740_2
        replace hx740_3 := clTr HB.out hx740_3
        replace p740 := eq_true p740
        replace q740 := eq_true q740
        have p741 : 0 ≤ (x5_1 : Int) := of_decide_eq_true (by first | (with_reducible assumption) | assumption)
        have q741 : x5_1 < (l1.length : Int) := of_decide_eq_true (by first | (with_reducible assumption) | assumption)
        obtain ⟨ad741, e741, hx741_0, hx741_1, hx741_2, hx741_3⟩ := at_T33 HR1.out x5_1 p741 q741
        have hw741_3 := hx741_3
        have hw741_2 := hx741_2
        have hw741_1 := hx741_1
        have hw741_0 := hx741_0
        cases e741
        replace hx741_0 := clTr HB.out hx741_0
        replace hx741_1 := clTr HB.out hx741_1
        replace hx741_2 := clTr HB.out hx741_2
        replace hx741_3 := clTr HB.out hx741_3
        replace p741 := eq_true p741
        replace q741 := eq_true q741
        refine start_ (n := 10) (S := fun w' => w'.cell? (ad740.add ((x5_1).toNat * 4)) = some (.int .i64 ((rd_T33 l0 x5_1).f0.f0)) ∧ w'.cell? ⟨(ad740.add ((x5_1).toNat * 4)).block, (ad740.add ((x5_1).toNat * 4)).off + 1, none⟩ = some (.int .i64 ((rd_T33 l0 x5_1).f0.f1)) ∧ w'.cell? ⟨(ad740.add ((x5_1).toNat * 4)).block, (ad740.add ((x5_1).toNat * 4)).off + 2, none⟩ = some (.int .i64 ((rd_T33 l0 x5_1).f1.f0)) ∧ w'.cell? ⟨(ad740.add ((x5_1).toNat * 4)).block, (ad740.add ((x5_1).toNat * 4)).off + 3, none⟩ = some (.int .i64 ((rd_T33 l0 x5_1).f1.f1)) ∧ w'.cell? (ad741.add ((x5_1).toNat * 4)) = some (.int .i64 ((rd_T33 l1 x5_1).f0.f0)) ∧ w'.cell? ⟨(ad741.add ((x5_1).toNat * 4)).block, (ad741.add ((x5_1).toNat * 4)).off + 1, none⟩ = some (.int .i64 ((rd_T33 l1 x5_1).f0.f1)) ∧ w'.cell? ⟨(ad741.add ((x5_1).toNat * 4)).block, (ad741.add ((x5_1).toNat * 4)).off + 2, none⟩ = some (.int .i64 ((rd_T33 l1 x5_1).f1.f0)) ∧ w'.cell? ⟨(ad741.add ((x5_1).toNat * 4)).block, (ad741.add ((x5_1).toNat * 4)).off + 3, none⟩ = some (.int .i64 ((rd_T33 l1 x5_1).f1.f1))) (ds := []) #[false, false, false, false, false, false, false, false, false, false] (by kernel_rfl) rfl rfl ⟨(clTr HB.out hw740_0), (clTr HB.out hw740_1), (clTr HB.out hw740_2), (clTr HB.out hw740_3), (clTr HB.out hw741_0), (clTr HB.out hw741_1), (clTr HB.out hw741_2), (clTr HB.out hw741_3)⟩ (fun hHeld => ?_); refine with_tabW laws_eqMatrixS.tab6 laws_eqMatrixS.bits6 (fun HT_ HW_ => ?_)
        generalize wr.drew = w9 at HB hx740_0 hx740_1 hx740_2 hx740_3 hx741_0 hx741_1 hx741_2 hx741_3 hHeld ⊢
        refine pu_ HT_ 0 (some 17) #[true, false, false, false, false, false, false, false, false, false] ?_
        refine pu_ HT_ 1 (some 18) #[true, true, false, false, false, false, false, false, false, false] ?_
        refine pu_ HT_ 2 (some 19) #[true, true, true, false, false, false, false, false, false, false] ?_
        refine pu_ HT_ 4 (some 21) #[true, true, true, false, true, false, false, false, false, false] ?_
        refine pu_ HT_ 5 (some 22) #[true, true, true, false, true, true, false, false, false, false] ?_
        refine pu_ HT_ 6 (some 23) #[true, true, true, false, true, true, true, false, false, false] ?_
        refine ta_ HT_ HW_ 3 (some 20) #[true, true, true, true, true, true, true, false, false, false] hHeld ?_ (hy := by rintro w' ⟨s0, s1, s2, s3, s4, s5, s6, s7⟩; go_simp; with_reducible rfl)
        refine ta_ HT_ HW_ 7 (some 24) #[true, true, true, true, true, true, true, true, false, false] hHeld ?_ (hy := by rintro w' ⟨s0, s1, s2, s3, s4, s5, s6, s7⟩; go_simp; with_reducible rfl)
        refine one_ (i := 8) (N := some 25) #[true, true, true, true, true, true, true, true, true, false] rfl rfl (one_of HT_.out (by kernel_rfl)) (by decide) (fun K hK => ?_)
        refine goes_ Try.func16 (by kernel_rfl) rfl #[.agg #[.int .i64 ((rd_T33 l0 x5_1).f0.f0), .int .i64 ((rd_T33 l0 x5_1).f0.f1), .int .i64 ((rd_T33 l0 x5_1).f1.f0), .int .i64 ((rd_T33 l0 x5_1).f1.f1)], .agg #[.int .i64 ((rd_T33 l1 x5_1).f0.f0), .int .i64 ((rd_T33 l1 x5_1).f0.f1), .int .i64 ((rd_T33 l1 x5_1).f1.f0), .int .i64 ((rd_T33 l1 x5_1).f1.f1)]] (by rfl) rfl rfl (by (try simp only [List.map_toArray, List.map_cons, List.map_nil]); first | done | rfl | (simp only [List.length_drop, List.length_take]; rfl)) ?_
        with_reducible refine (laws_eqMatrix.calls k1 ((rd_T33 l0 x5_1).f0.f0) ((rd_T33 l0 x5_1).f0.f1) ((rd_T33 l0 x5_1).f1.f0) ((rd_T33 l0 x5_1).f1.f1) ((rd_T33 l1 x5_1).f0.f0) ((rd_T33 l1 x5_1).f0.f1) ((rd_T33 l1 x5_1).f1.f0) ((rd_T33 l1 x5_1).f1.f1) true _ A7.out).mono ?_
        rintro e w10 ⟨rfl, hb⟩
        refine ⟨_, rfl, ?_⟩
        replace HB := bt_ HB hb
        (try clear hb)
        (try clear hb2)
        (try clear hk)
        (try clear hi)
        refine hK.out _ _ ⟨(clTr HB.out hw740_0), (clTr HB.out hw740_1), (clTr HB.out hw740_2), (clTr HB.out hw740_3), (clTr HB.out hw741_0), (clTr HB.out hw741_1), (clTr HB.out hw741_2), (clTr HB.out hw741_3)⟩ (fun hHeld => ?_)
        clear hK K
        refine norm_ (a' := ?_) ?_ ?_
        rotate_left
        ·show Act.put _ (some 25) _ = _
         simp only [Act.put, lstS, lstZ, lstC, i64_w, i32_w]
         rfl
        refine pu_ HT_ 9 (some 26) #[true, true, true, true, true, true, true, true, true, true] ?_
        refine done_ (done_of HT_.out (by kernel_rfl)) ?_
        try go_wp2
        go_roundg k1
        case measure => have := HK1.out; omega
        case rel => exact ⟨(wrap64 (x5_1 + 1)), (by first | rfl | (simp; done) | (simp [*]; done) | (simp [wrap64]; done)), H', ⟨by have := HK1.out; omega⟩, bw_ HB⟩
       ·replace c8 := Bool.eq_false_iff.mpr c8
        subst c8
        have H1 : (some false) = some r := by rw [if_neg (show ¬ (false = true) by decide)] at H; exact H
        clear H
        have H := H1
        clear H1
        obtain rfl := Option.some.inj H
        try go_wp2
        replace HB := Aside0.mk (below_drew1 HB.out)
        have p740 : 0 ≤ (x5_1 : Int) := of_decide_eq_true (by first | (with_reducible assumption) | assumption)
        have q740 : x5_1 < (l0.length : Int) := of_decide_eq_true (by first | (with_reducible assumption) | assumption)
        obtain ⟨ad740, e740, hx740_0, hx740_1, hx740_2, hx740_3⟩ := at_T33 HR0.out x5_1 p740 q740
        have hw740_3 := hx740_3
        have hw740_2 := hx740_2
        have hw740_1 := hx740_1
        have hw740_0 := hx740_0
        cases e740
        replace hx740_0 := clTr HB.out hx740_0
        replace hx740_1 := clTr HB.out hx740_1
        replace hx740_2 := clTr HB.out hx740_2
        replace hx740_3 := clTr HB.out hx740_3
        replace p740 := eq_true p740
        replace q740 := eq_true q740
        have p741 : 0 ≤ (x5_1 : Int) := of_decide_eq_true (by first | (with_reducible assumption) | assumption)
        have q741 : x5_1 < (l1.length : Int) := of_decide_eq_true (by first | (with_reducible assumption) | assumption)
        obtain ⟨ad741, e741, hx741_0, hx741_1, hx741_2, hx741_3⟩ := at_T33 HR1.out x5_1 p741 q741
        have hw741_3 := hx741_3
        have hw741_2 := hx741_2
        have hw741_1 := hx741_1
        have hw741_0 := hx741_0
        cases e741
        replace hx741_0 := clTr HB.out hx741_0
        replace hx741_1 := clTr HB.out hx741_1
        replace hx741_2 := clTr HB.out hx741_2
        replace hx741_3 := clTr HB.out hx741_3
        replace p741 := eq_true p741
        replace q741 := eq_true q741
        refine start_ (n := 10) (S := fun w' => w'.cell? (ad740.add ((x5_1).toNat * 4)) = some (.int .i64 ((rd_T33 l0 x5_1).f0.f0)) ∧ w'.cell? ⟨(ad740.add ((x5_1).toNat * 4)).block, (ad740.add ((x5_1).toNat * 4)).off + 1, none⟩ = some (.int .i64 ((rd_T33 l0 x5_1).f0.f1)) ∧ w'.cell? ⟨(ad740.add ((x5_1).toNat * 4)).block, (ad740.add ((x5_1).toNat * 4)).off + 2, none⟩ = some (.int .i64 ((rd_T33 l0 x5_1).f1.f0)) ∧ w'.cell? ⟨(ad740.add ((x5_1).toNat * 4)).block, (ad740.add ((x5_1).toNat * 4)).off + 3, none⟩ = some (.int .i64 ((rd_T33 l0 x5_1).f1.f1)) ∧ w'.cell? (ad741.add ((x5_1).toNat * 4)) = some (.int .i64 ((rd_T33 l1 x5_1).f0.f0)) ∧ w'.cell? ⟨(ad741.add ((x5_1).toNat * 4)).block, (ad741.add ((x5_1).toNat * 4)).off + 1, none⟩ = some (.int .i64 ((rd_T33 l1 x5_1).f0.f1)) ∧ w'.cell? ⟨(ad741.add ((x5_1).toNat * 4)).block, (ad741.add ((x5_1).toNat * 4)).off + 2, none⟩ = some (.int .i64 ((rd_T33 l1 x5_1).f1.f0)) ∧ w'.cell? ⟨(ad741.add ((x5_1).toNat * 4)).block, (ad741.add ((x5_1).toNat * 4)).off + 3, none⟩ = some (.int .i64 ((rd_T33 l1 x5_1).f1.f1))) (ds := []) #[false, false, false, false, false, false, false, false, false, false] (by kernel_rfl) rfl rfl ⟨(clTr HB.out hw740_0), (clTr HB.out hw740_1), (clTr HB.out hw740_2), (clTr HB.out hw740_3), (clTr HB.out hw741_0), (clTr HB.out hw741_1), (clTr HB.out hw741_2), (clTr HB.out hw741_3)⟩ (fun hHeld => ?_); refine with_tabW laws_eqMatrixS.tab6 laws_eqMatrixS.bits6 (fun HT_ HW_ => ?_)
        generalize wr.drew = w11 at HB hx740_0 hx740_1 hx740_2 hx740_3 hx741_0 hx741_1 hx741_2 hx741_3 hHeld ⊢
        refine pu_ HT_ 0 (some 17) #[true, false, false, false, false, false, false, false, false, false] ?_
        refine pu_ HT_ 1 (some 18) #[true, true, false, false, false, false, false, false, false, false] ?_
        refine pu_ HT_ 2 (some 19) #[true, true, true, false, false, false, false, false, false, false] ?_
        refine pu_ HT_ 4 (some 21) #[true, true, true, false, true, false, false, false, false, false] ?_
        refine pu_ HT_ 5 (some 22) #[true, true, true, false, true, true, false, false, false, false] ?_
        refine pu_ HT_ 6 (some 23) #[true, true, true, false, true, true, true, false, false, false] ?_
        refine ta_ HT_ HW_ 3 (some 20) #[true, true, true, true, true, true, true, false, false, false] hHeld ?_ (hy := by rintro w' ⟨s0, s1, s2, s3, s4, s5, s6, s7⟩; go_simp; with_reducible rfl)
        refine ta_ HT_ HW_ 7 (some 24) #[true, true, true, true, true, true, true, true, false, false] hHeld ?_ (hy := by rintro w' ⟨s0, s1, s2, s3, s4, s5, s6, s7⟩; go_simp; with_reducible rfl)
        refine one_ (i := 8) (N := some 25) #[true, true, true, true, true, true, true, true, true, false] rfl rfl (one_of HT_.out (by kernel_rfl)) (by decide) (fun K hK => ?_)
        refine goes_ Try.func16 (by kernel_rfl) rfl #[.agg #[.int .i64 ((rd_T33 l0 x5_1).f0.f0), .int .i64 ((rd_T33 l0 x5_1).f0.f1), .int .i64 ((rd_T33 l0 x5_1).f1.f0), .int .i64 ((rd_T33 l0 x5_1).f1.f1)], .agg #[.int .i64 ((rd_T33 l1 x5_1).f0.f0), .int .i64 ((rd_T33 l1 x5_1).f0.f1), .int .i64 ((rd_T33 l1 x5_1).f1.f0), .int .i64 ((rd_T33 l1 x5_1).f1.f1)]] (by rfl) rfl rfl (by (try simp only [List.map_toArray, List.map_cons, List.map_nil]); first | done | rfl | (simp only [List.length_drop, List.length_take]; rfl)) ?_
        with_reducible refine (laws_eqMatrix.calls k1 ((rd_T33 l0 x5_1).f0.f0) ((rd_T33 l0 x5_1).f0.f1) ((rd_T33 l0 x5_1).f1.f0) ((rd_T33 l0 x5_1).f1.f1) ((rd_T33 l1 x5_1).f0.f0) ((rd_T33 l1 x5_1).f0.f1) ((rd_T33 l1 x5_1).f1.f0) ((rd_T33 l1 x5_1).f1.f1) false _ A7.out).mono ?_
        rintro e w12 ⟨rfl, hb⟩
        refine ⟨_, rfl, ?_⟩
        replace HB := bt_ HB hb
        (try clear hb)
        (try clear hb2)
        (try clear hk)
        (try clear hi)
        refine hK.out _ _ ⟨(clTr HB.out hw740_0), (clTr HB.out hw740_1), (clTr HB.out hw740_2), (clTr HB.out hw740_3), (clTr HB.out hw741_0), (clTr HB.out hw741_1), (clTr HB.out hw741_2), (clTr HB.out hw741_3)⟩ (fun hHeld => ?_)
        clear hK K
        refine norm_ (a' := ?_) ?_ ?_
        rotate_left
        ·show Act.put _ (some 25) _ = _
         simp only [Act.put, lstS, lstZ, lstC, i64_w, i32_w]
         rfl
        refine pu_ HT_ 9 (some 26) #[true, true, true, true, true, true, true, true, true, true] ?_
        refine done_ (done_of HT_.out (by kernel_rfl)) ?_
        try go_wp2
        go_ret
        exact ⟨by first | rfl | (simp [errW_none, errW_some] <;> rfl) | (simp [*, errW_none, errW_some] <;> rfl), by repeat (first | (with_reducible first | exact HB.out | apply below_alloc | apply pw_below_drewN | apply below_drew1) | exact HB.out)⟩
      ·rw [if_neg c6] at H
       exact absurd H (by simp)
     ·rw [if_neg c5] at H
      exact absurd H (by simp)
    ·rw [if_neg c4] at H
     have c4b0 : decide (x5_1 < (l0.length : Int)) = false := decide_eq_false c4
     clear c4
     obtain rfl := Option.some.inj H
     go_wp2
     go_ret
     exact ⟨by first | rfl | (simp [errW_none, errW_some] <;> rfl) | (simp [*, errW_none, errW_some] <;> rfl), by repeat (first | (with_reducible first | exact HB.out | apply below_alloc | apply pw_below_drewN | apply below_drew1) | exact HB.out)⟩
 ·rw [if_neg c3] at H
  have c3b0 : ((l0.length : Int) == (l1.length : Int)) = false := beq_eq_false_iff_ne.mpr c3
  have c3b1 : ((l0.length : Int) != (l1.length : Int)) = true := bne_iff_ne.mpr c3
  have c3b2 : (l0.length == l1.length) = false := by first | simpa using c3 | (simp at c3 ⊢; omega)
  obtain rfl := Option.some.inj H
  go_enter Try.func27, Try.ntmps27
  go_wp2
  go_ret
  exact ⟨by first | rfl | (simp [errW_none, errW_some] <;> rfl) | (simp [*, errW_none, errW_some] <;> rfl), by repeat (first | (with_reducible first | exact HB.out | apply below_alloc | apply pw_below_drewN | apply below_drew1) | exact HB.out)⟩
/-! ### laws_eqBall: function 41 -/
def laws_eqBall.f (a0_0 : Int) (a0_1 : Int) (a0_2 : Int) (a1_0 : Int) (a1_1 : Int) (a1_2 : Int) : Option (Bool) := if a0_0 = a1_0 then (if a0_1 = a1_1 then (if a0_2 = a1_2 then (some true) else (some false)) else (some false)) else (some false)
set_option maxHeartbeats 8000000 in
set_option maxRecDepth 100000 in
theorem laws_eqBall.calls (a0_0 : Int) (a0_1 : Int) (a0_2 : Int) (a1_0 : Int) (a1_1 : Int) (a1_2 : Int) (r : Bool) (w : World) (h : laws_eqBall.f a0_0 a0_1 a0_2 a1_0 a1_1 a1_2 = some r) :
  Calls Try.prog 41 #[.agg #[.int .i64 a0_0, .int .i64 a0_1, .int .i64 a0_2], .agg #[.int .i64 a1_0, .int .i64 a1_1, .int .i64 a1_2]] w fun e w' => e = .returned (.bool r) ∧ Below w.heap.size w w' := by
 have hu28 := Try.underlying28
 have HB := Aside0.mk (Below.refl w.heap.size w)
 have H : (if a0_0 = a1_0 then (if a0_1 = a1_1 then (if a0_2 = a1_2 then (some true) else (some false)) else (some false)) else (some false)) = some r := h
 clear h
 by_cases c3 : a0_0 = a1_0
 ·rw [if_pos c3] at H
  have c3b0 : (a0_0 == a1_0) = true := beq_iff_eq.mpr c3
  have c3b1 : (a0_0 != a1_0) = false := bne_eq_false_iff_eq.mpr c3
  clear c3
  by_cases c4 : a0_1 = a1_1
  ·rw [if_pos c4] at H
   have c4b0 : (a0_1 == a1_1) = true := beq_iff_eq.mpr c4
   have c4b1 : (a0_1 != a1_1) = false := bne_eq_false_iff_eq.mpr c4
   clear c4
   by_cases c5 : a0_2 = a1_2
   ·rw [if_pos c5] at H
    have c5b0 : (a0_2 == a1_2) = true := beq_iff_eq.mpr c5
    have c5b1 : (a0_2 != a1_2) = false := bne_eq_false_iff_eq.mpr c5
    clear c5
    obtain rfl := Option.some.inj H
    go_enter Try.func41, Try.ntmps41
    go_wp2_with (first | ((with_reducible refine gate_dst (N := 2) rfl ?_); refine bx_ 2 #[.int .i64 a0_0, .int .i64 a0_1, .int .i64 a0_2] 28 ?_; intro gb743 hg w6 hbox hb; have BK743 := Aside0.mk (hbox); have GW743 := bs_ HB hg; have GE743 := bs_ HB hg; replace HB := bt_ HB hb; clear hb hbox hg) | ((with_reducible refine gate_dst (N := 3) rfl ?_); refine bx_ 3 #[.int .i64 a1_0, .int .i64 a1_1, .int .i64 a1_2] 28 ?_; intro gb744 hg w7 hbox hb; have BK744 := Aside0.mk (hbox); have GW744 := bs_ HB hg; have GE744 := bs_ HB hg; have NB743_744 := bm_ BK743 hg; have NB744_743 := bn_ BK743 hg; replace BK743 := bb_ BK743 hb; replace HB := bt_ HB hb; clear hb hbox hg; have hnb8 := NB743_744.out; have hnc8 := NB744_743.out; have hcz9_0 : w7.cell? ⟨gb743, 0, none⟩ = some (.int .i64 a0_0) := (blk_cell BK743.out 0).trans rfl; have hcz9_1 : w7.cell? ⟨gb743, 1, none⟩ = some (.int .i64 a0_1) := (blk_cell BK743.out 1).trans rfl; have hcz9_2 : w7.cell? ⟨gb743, 2, none⟩ = some (.int .i64 a0_2) := (blk_cell BK743.out 2).trans rfl; have hfz9_0 := blk_frozen BK743.out 0; have hfz9_1 := blk_frozen BK743.out 1; have hfz9_2 := blk_frozen BK743.out 2; have hcz10_0 : w7.cell? ⟨gb744, 0, none⟩ = some (.int .i64 a1_0) := (blk_cell BK744.out 0).trans rfl; have hcz10_1 : w7.cell? ⟨gb744, 1, none⟩ = some (.int .i64 a1_1) := (blk_cell BK744.out 1).trans rfl; have hcz10_2 : w7.cell? ⟨gb744, 2, none⟩ = some (.int .i64 a1_2) := (blk_cell BK744.out 2).trans rfl; have hfz10_0 := blk_frozen BK744.out 0; have hfz10_1 := blk_frozen BK744.out 1; have hfz10_2 := blk_frozen BK744.out 2))
    go_ret
    exact ⟨by first | rfl | (simp [errW_none, errW_some] <;> rfl) | (simp [*, errW_none, errW_some] <;> rfl), by repeat (first | (with_reducible first | exact HB.out | apply below_alloc | apply pw_below_drewN | apply below_drew1 | refine below_set ?_ GE743.out | refine below_set ?_ GE744.out) | exact HB.out)⟩
   ·rw [if_neg c5] at H
    have c5b0 : (a0_2 == a1_2) = false := beq_eq_false_iff_ne.mpr c5
    have c5b1 : (a0_2 != a1_2) = true := bne_iff_ne.mpr c5
    obtain rfl := Option.some.inj H
    go_enter Try.func41, Try.ntmps41
    go_wp2_with (first | ((with_reducible refine gate_dst (N := 2) rfl ?_); refine bx_ 2 #[.int .i64 a0_0, .int .i64 a0_1, .int .i64 a0_2] 28 ?_; intro gb743 hg w11 hbox hb; have BK743 := Aside0.mk (hbox); have GW743 := bs_ HB hg; have GE743 := bs_ HB hg; replace HB := bt_ HB hb; clear hb hbox hg) | ((with_reducible refine gate_dst (N := 3) rfl ?_); refine bx_ 3 #[.int .i64 a1_0, .int .i64 a1_1, .int .i64 a1_2] 28 ?_; intro gb744 hg w12 hbox hb; have BK744 := Aside0.mk (hbox); have GW744 := bs_ HB hg; have GE744 := bs_ HB hg; have NB743_744 := bm_ BK743 hg; have NB744_743 := bn_ BK743 hg; replace BK743 := bb_ BK743 hb; replace HB := bt_ HB hb; clear hb hbox hg; have hnb13 := NB743_744.out; have hnc13 := NB744_743.out; have hcz14_0 : w12.cell? ⟨gb743, 0, none⟩ = some (.int .i64 a0_0) := (blk_cell BK743.out 0).trans rfl; have hcz14_1 : w12.cell? ⟨gb743, 1, none⟩ = some (.int .i64 a0_1) := (blk_cell BK743.out 1).trans rfl; have hcz14_2 : w12.cell? ⟨gb743, 2, none⟩ = some (.int .i64 a0_2) := (blk_cell BK743.out 2).trans rfl; have hfz14_0 := blk_frozen BK743.out 0; have hfz14_1 := blk_frozen BK743.out 1; have hfz14_2 := blk_frozen BK743.out 2; have hcz15_0 : w12.cell? ⟨gb744, 0, none⟩ = some (.int .i64 a1_0) := (blk_cell BK744.out 0).trans rfl; have hcz15_1 : w12.cell? ⟨gb744, 1, none⟩ = some (.int .i64 a1_1) := (blk_cell BK744.out 1).trans rfl; have hcz15_2 : w12.cell? ⟨gb744, 2, none⟩ = some (.int .i64 a1_2) := (blk_cell BK744.out 2).trans rfl; have hfz15_0 := blk_frozen BK744.out 0; have hfz15_1 := blk_frozen BK744.out 1; have hfz15_2 := blk_frozen BK744.out 2))
    go_ret
    exact ⟨by first | rfl | (simp [errW_none, errW_some] <;> rfl) | (simp [*, errW_none, errW_some] <;> rfl), by repeat (first | (with_reducible first | exact HB.out | apply below_alloc | apply pw_below_drewN | apply below_drew1 | refine below_set ?_ GE743.out | refine below_set ?_ GE744.out) | exact HB.out)⟩
  ·rw [if_neg c4] at H
   have c4b0 : (a0_1 == a1_1) = false := beq_eq_false_iff_ne.mpr c4
   have c4b1 : (a0_1 != a1_1) = true := bne_iff_ne.mpr c4
   obtain rfl := Option.some.inj H
   go_enter Try.func41, Try.ntmps41
   go_wp2_with (first | ((with_reducible refine gate_dst (N := 2) rfl ?_); refine bx_ 2 #[.int .i64 a0_0, .int .i64 a0_1, .int .i64 a0_2] 28 ?_; intro gb743 hg w16 hbox hb; have BK743 := Aside0.mk (hbox); have GW743 := bs_ HB hg; have GE743 := bs_ HB hg; replace HB := bt_ HB hb; clear hb hbox hg) | ((with_reducible refine gate_dst (N := 3) rfl ?_); refine bx_ 3 #[.int .i64 a1_0, .int .i64 a1_1, .int .i64 a1_2] 28 ?_; intro gb744 hg w17 hbox hb; have BK744 := Aside0.mk (hbox); have GW744 := bs_ HB hg; have GE744 := bs_ HB hg; have NB743_744 := bm_ BK743 hg; have NB744_743 := bn_ BK743 hg; replace BK743 := bb_ BK743 hb; replace HB := bt_ HB hb; clear hb hbox hg; have hnb18 := NB743_744.out; have hnc18 := NB744_743.out; have hcz19_0 : w17.cell? ⟨gb743, 0, none⟩ = some (.int .i64 a0_0) := (blk_cell BK743.out 0).trans rfl; have hcz19_1 : w17.cell? ⟨gb743, 1, none⟩ = some (.int .i64 a0_1) := (blk_cell BK743.out 1).trans rfl; have hcz19_2 : w17.cell? ⟨gb743, 2, none⟩ = some (.int .i64 a0_2) := (blk_cell BK743.out 2).trans rfl; have hfz19_0 := blk_frozen BK743.out 0; have hfz19_1 := blk_frozen BK743.out 1; have hfz19_2 := blk_frozen BK743.out 2; have hcz20_0 : w17.cell? ⟨gb744, 0, none⟩ = some (.int .i64 a1_0) := (blk_cell BK744.out 0).trans rfl; have hcz20_1 : w17.cell? ⟨gb744, 1, none⟩ = some (.int .i64 a1_1) := (blk_cell BK744.out 1).trans rfl; have hcz20_2 : w17.cell? ⟨gb744, 2, none⟩ = some (.int .i64 a1_2) := (blk_cell BK744.out 2).trans rfl; have hfz20_0 := blk_frozen BK744.out 0; have hfz20_1 := blk_frozen BK744.out 1; have hfz20_2 := blk_frozen BK744.out 2))
   go_ret
   exact ⟨by first | rfl | (simp [errW_none, errW_some] <;> rfl) | (simp [*, errW_none, errW_some] <;> rfl), by repeat (first | (with_reducible first | exact HB.out | apply below_alloc | apply pw_below_drewN | apply below_drew1 | refine below_set ?_ GE743.out | refine below_set ?_ GE744.out) | exact HB.out)⟩
 ·rw [if_neg c3] at H
  have c3b0 : (a0_0 == a1_0) = false := beq_eq_false_iff_ne.mpr c3
  have c3b1 : (a0_0 != a1_0) = true := bne_iff_ne.mpr c3
  obtain rfl := Option.some.inj H
  go_enter Try.func41, Try.ntmps41
  go_wp2_with (first | ((with_reducible refine gate_dst (N := 2) rfl ?_); refine bx_ 2 #[.int .i64 a0_0, .int .i64 a0_1, .int .i64 a0_2] 28 ?_; intro gb743 hg w21 hbox hb; have BK743 := Aside0.mk (hbox); have GW743 := bs_ HB hg; have GE743 := bs_ HB hg; replace HB := bt_ HB hb; clear hb hbox hg) | ((with_reducible refine gate_dst (N := 3) rfl ?_); refine bx_ 3 #[.int .i64 a1_0, .int .i64 a1_1, .int .i64 a1_2] 28 ?_; intro gb744 hg w22 hbox hb; have BK744 := Aside0.mk (hbox); have GW744 := bs_ HB hg; have GE744 := bs_ HB hg; have NB743_744 := bm_ BK743 hg; have NB744_743 := bn_ BK743 hg; replace BK743 := bb_ BK743 hb; replace HB := bt_ HB hb; clear hb hbox hg; have hnb23 := NB743_744.out; have hnc23 := NB744_743.out; have hcz24_0 : w22.cell? ⟨gb743, 0, none⟩ = some (.int .i64 a0_0) := (blk_cell BK743.out 0).trans rfl; have hcz24_1 : w22.cell? ⟨gb743, 1, none⟩ = some (.int .i64 a0_1) := (blk_cell BK743.out 1).trans rfl; have hcz24_2 : w22.cell? ⟨gb743, 2, none⟩ = some (.int .i64 a0_2) := (blk_cell BK743.out 2).trans rfl; have hfz24_0 := blk_frozen BK743.out 0; have hfz24_1 := blk_frozen BK743.out 1; have hfz24_2 := blk_frozen BK743.out 2; have hcz25_0 : w22.cell? ⟨gb744, 0, none⟩ = some (.int .i64 a1_0) := (blk_cell BK744.out 0).trans rfl; have hcz25_1 : w22.cell? ⟨gb744, 1, none⟩ = some (.int .i64 a1_1) := (blk_cell BK744.out 1).trans rfl; have hcz25_2 : w22.cell? ⟨gb744, 2, none⟩ = some (.int .i64 a1_2) := (blk_cell BK744.out 2).trans rfl; have hfz25_0 := blk_frozen BK744.out 0; have hfz25_1 := blk_frozen BK744.out 1; have hfz25_2 := blk_frozen BK744.out 2))
  go_ret
  exact ⟨by first | rfl | (simp [errW_none, errW_some] <;> rfl) | (simp [*, errW_none, errW_some] <;> rfl), by repeat (first | (with_reducible first | exact HB.out | apply below_alloc | apply pw_below_drewN | apply below_drew1 | refine below_set ?_ GE743.out | refine below_set ?_ GE744.out) | exact HB.out)⟩
end Go.Proofs.Ytojpcbbmbnmchaa.QC
