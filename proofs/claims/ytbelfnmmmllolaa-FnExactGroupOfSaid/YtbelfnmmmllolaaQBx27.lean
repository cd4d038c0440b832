-- Written by a program of this session out of Lean's own print of the loaded program; Lean checks it.
import Derived.Test.YtbelfnmmmllolaaQBx0
import Derived.Test.YtbelfnmmmllolaaQBx16
import Derived.Test.YtbelfnmmmllolaaQBx22
import Derived.Test.YtbelfnmmmllolaaQBx24
import Derived.Test.YtbelfnmmmllolaaQBx26
namespace Go.Proofs.Ytbelfnmmmllolaa.QB
open Go.RowKit Go.Proofs.YtbelfnmmmllolaaW.PrintWords Go.Proofs.YtbelfnmmmllolaaW.PrintLast Go.Proofs.YtbelfnmmmllolaaW.PrintMore
attribute [local go_sem] isSome_setCell max2_int min2_int max_two min_two max_three min_three max_four min_four   -- for this text's walks alone
set_option linter.unusedVariables false
set_option linter.unusedSimpArgs false

/-! ### impl_GroupOf: function 22 -/
mutual
def impl_GroupOf.l0 : Nat → List (S26) → List (S26) → Int → Option ((List (S26)) × Int)
 | 0, _, _, _ => none
 | k + 1, x0, x5, x6 => if x6 < (x5.length : Int) then (impl_GroupOf.l1 k x0 x5 x6 x0 (x0.length : Int) 0) else (some (x5, 0))
def impl_GroupOf.l1 : Nat → List (S26) → List (S26) → Int → List (S26) → Int → Int → Option ((List (S26)) × Int)
 | 0, _, _, _, _, _, _ => none
 | k + 1, x0, x5, x6, x24, x25, x26 => if x26 < x25 then (if 0 ≤ x26 then (if x26 < (x24.length : Int) then (if 0 ≤ x6 then (if x6 < (x5.length : Int) then ((impl_product.f k ((rd_T26 x5 x6).f0.f0) ((rd_T26 x5 x6).f0.f1) ((rd_T26 x5 x6).f1.f0) ((rd_T26 x5 x6).f1.f1) ((rd_T26 x24 x26).f0.f0) ((rd_T26 x24 x26).f0.f1) ((rd_T26 x24 x26).f1.f0) ((rd_T26 x24 x26).f1.f1)).bind fun bt220 => (if bt220.2.2.2.2 = true then ((impl_Matrix_51.f k x5 bt220.1 bt220.2.1 bt220.2.2.1 bt220.2.2.2.1).bind fun t226 => (if t226 = true then (if (x5.length : Int) > 48 then (some (([] : List (S26)), 3)) else (impl_GroupOf.l1 k x0 x5 x6 x24 x25 (wrap64 (x26 + 1)))) else (if x5.length < 4398046511104 then ((some (x5 ++ [(⟨(⟨bt220.1, bt220.2.1⟩ : S22), (⟨bt220.2.2.1, bt220.2.2.2.1⟩ : S22)⟩ : S26)] : List (S26))).bind fun y227 => (if (y227.length : Int) > 48 then (some (([] : List (S26)), 3)) else (impl_GroupOf.l1 k x0 y227 x6 x24 x25 (wrap64 (x26 + 1))))) else (none)))) else (some (([] : List (S26)), 3)))) else (none)) else (none)) else (none)) else (none)) else (impl_GroupOf.l0 k x0 x5 (wrap64 (x6 + 1)))
end
def impl_GroupOf.f (k : Nat) (l0 : List (S26)) : Option ((List (S26)) × Int) := (impl_moversCode.f k l0).bind fun t209 => (if t209 = 0 then ((impl_one.f).bind fun bt210 => (impl_GroupOf.l0 k l0 (([(⟨(⟨bt210.1, bt210.2.1⟩ : S22), (⟨bt210.2.2.1, bt210.2.2.2⟩ : S22)⟩ : S26)] : List (S26))) 0)) else (some (([] : List (S26)), t209)))
def impl_GroupOf.T11 : Bool × List (List Nat × List Nat) := (true, [([], []), ([], []), ([0, 1], [0, 1]), ([2], [2]), ([], []), ([3, 4], [3, 4]), ([5], [5]), ([6], [6]), ([6], [6]), ([], []), ([9, 7, 5, 0, 1, 2, 3, 4, 5, 6, 7, 9], [7, 9]), ([8, 10, 0, 1, 2, 3, 4, 5, 6, 7, 8, 9, 10], [8])])
def impl_GroupOf.B11 : List Nat := [0, 0, 3, 7, 0, 31, 63, 127, 127, 0, 767, 2047]
theorem impl_GroupOf.tab11 : rtab .any (opsOf Try.f22 11) = impl_GroupOf.T11 := by kernel_rfl
theorem impl_GroupOf.bits11 : waitsOk impl_GroupOf.T11.2 impl_GroupOf.B11 = true := by kernel_rfl
set_option maxHeartbeats 8000000 in
set_option maxRecDepth 100000 in
theorem impl_GroupOf.calls (k : Nat) (A0 : Option Addr) (c0 : Nat) (l0 : List (S26)) (r1 : List (S26)) (r2 : Int) (w : World) (hr0 : Kd.C k26 w A0 l0.length l0) (hc0 : l0.length ≤ c0) (h : impl_GroupOf.f k l0 = some (r1, r2)) :
  Calls Try.prog 22 #[.slice A0 l0.length c0] w fun e w' => ∃ v0_ : Value, e = .returned (.tuple #[v0_, .int .i64 r2]) ∧ Kd.R k26 26 w' w.heap.size (fun _ => True) v0_ r1 ∧ Below w.heap.size w w' := by
 have hu26 := Try.underlying26
 have HR0 := Aside0.mk hr0
 have HC0 := Aside0.mk hc0
 clear hr0 hc0
 have HB := Aside0.mk (Below.refl w.heap.size w)
 have H : ((impl_moversCode.f k l0).bind fun t209 => (if t209 = 0 then ((impl_one.f).bind fun bt210 => (impl_GroupOf.l0 k l0 (([(⟨(⟨bt210.1, bt210.2.1⟩ : S22), (⟨bt210.2.2.1, bt210.2.2.2⟩ : S22)⟩ : S26)] : List (S26))) 0)) else (some (([] : List (S26)), t209)))) = some (r1, r2) := h
 clear h
 replace H := Option.bind_eq_some_iff.mp H
 obtain ⟨t209, A20, H⟩ := H
 replace H : (if t209 = 0 then ((impl_one.f).bind fun bt210 => (impl_GroupOf.l0 k l0 (([(⟨(⟨bt210.1, bt210.2.1⟩ : S22), (⟨bt210.2.2.1, bt210.2.2.2⟩ : S22)⟩ : S26)] : List (S26))) 0)) else (some (([] : List (S26)), t209))) = some (r1, r2) := H
 have A2 := Aside0.mk A20
 clear A20
 by_cases c3 : t209 = 0
 ·rw [if_pos c3] at H
  have c3b0 : (t209 == 0) = true := beq_iff_eq.mpr c3
  have c3b1 : (t209 != 0) = false := bne_eq_false_iff_eq.mpr c3
  clear c3
  replace H := Option.bind_eq_some_iff.mp H
  obtain ⟨⟨t210, t211, t212, t213⟩, A40, H⟩ := H
  replace H : (impl_GroupOf.l0 k l0 (([(⟨(⟨t210, t211⟩ : S22), (⟨t212, t213⟩ : S22)⟩ : S26)] : List (S26))) 0) = some (r1, r2) := H
  have A4 := Aside0.mk A40
  clear A40
  obtain ⟨y214, hy214⟩ : ∃ y_ : List (S26), y_ = (([(⟨(⟨t210, t211⟩ : S22), (⟨t212, t213⟩ : S22)⟩ : S26)] : List (S26))) := ⟨_, rfl⟩
  replace H : (impl_GroupOf.l0 k l0 y214 0) = some (r1, r2) := by first | (rw [hy214]; with_reducible exact H) | (have H2_ := (Option.bind_some _ _).symm.trans H; rw [hy214]; with_reducible exact H2_) | (have H2_ := (Option.bind_some _ _).symm.trans H; with_reducible exact H2_) | with_reducible exact H | (rw [hy214]; exact H) | exact H
  have Ny214 := Aside0.mk hy214
  clear hy214
  have H' := Aside0.mk H
  clear H
  go_enter Try.func22, Try.ntmps22
  go_wp2_with (first | ((with_reducible refine gate_callee (f := 50) rfl ?_); refine goesL_ (some 12) rfl rfl Try.func50 (by kernel_rfl) rfl #[.slice A0 l0.length c0] rfl (by (try simp only [List.map_toArray, List.map_cons, List.map_nil]); first | done | rfl | (simp only [List.length_drop, List.length_take]; rfl)) ?_; (with_reducible refine (impl_moversCode.calls k _ _ l0 t209 _ ?side1 ?side2 A2.out).mono ?_); (case side1 => repeat (first | exact HR0.out | (with_reducible refine Kd.C_alloc ?_ _) | (with_reducible refine Kd.C_drewN ?_ _) | (with_reducible refine Kd.C_drew ?_))); (case side2 => exact HC0.out); rintro e w5 ⟨rfl, hb⟩; refine ⟨_, rfl, ?_⟩; have n0_ := Aside0.mk (below_step (by repeat (first | (with_reducible first | exact HB.out | apply below_alloc | apply pw_below_drewN | apply below_drew1) | exact HB.out)) hb); clear HB; have HB := n0_; clear n0_; (try clear hb); (try clear hb2); (try clear hk); (try clear hi)) | ((with_reducible refine gate_callee (f := 43) rfl ?_); refine goesL_ (some 16) rfl rfl Try.func43 (by kernel_rfl) rfl #[] rfl (by (try simp only [List.map_toArray, List.map_cons, List.map_nil]); first | done | rfl | (simp only [List.length_drop, List.length_take]; rfl)) ?_; (with_reducible refine (impl_one.calls  t210 t211 t212 t213 _ A4.out).mono ?_); rintro e w6 ⟨rfl, hb⟩; refine ⟨_, rfl, ?_⟩; have n0_ := Aside0.mk (below_step (by repeat (first | (with_reducible first | exact HB.out | apply below_alloc | apply pw_below_drewN | apply below_drew1) | exact HB.out)) hb); clear HB; have HB := n0_; clear n0_; (try clear hb); (try clear hb2); (try clear hk); (try clear hi)) | ((with_reducible refine gate_dst (N := 17) rfl ?_); refine Kd.R_lit k26 _ 26 ?hg (N := 17) ?hd (xs := ([(⟨(⟨t210, t211⟩ : S22), (⟨t212, t213⟩ : S22)⟩ : S26)] : List (S26))) (inner := [.int .i64 t210, .int .i64 t211, .int .i64 t212, .int .i64 t213]) (ok := fun _ => True) (okp := fun _ => True) ?hr ?hp (fun _ hk => hk) trivial (Below.refl _ _) (Nat.le_refl _) (by simp) ?_; (case hd => rfl); (case hg => rfl); (case hr => first | (go_simp; done) | (go_simp; rfl)); (case hp => exact (Reps.c4 (show Kd.M k26 _ _ _ (⟨(⟨t210, t211⟩ : S22), (⟨t212, t213⟩ : S22)⟩ : S26) [.int .i64 t210, .int .i64 t211, .int .i64 t212, .int .i64 t213] from (k26_mkM _ _ _ (⟨(⟨t210, t211⟩ : S22), (⟨t212, t213⟩ : S22)⟩ : S26) )) (Reps.none _ _))); intro v215 w7 ho8 hb hg_ hnew_; clear hg_ hnew_; (first | rw [← Ny214.out] at ho8 | (simp only [Int.reduceToNat] at ho8; rw [← Ny214.out] at ho8)); have n0_ := Aside0.mk (Kd.R_lower ho8 (below_size (by repeat (first | (with_reducible first | exact HB.out | apply below_alloc | apply pw_below_drewN | apply below_drew1) | exact HB.out)))); have n1_ := Aside0.mk (below_step (by repeat (first | (with_reducible first | exact HB.out | apply below_alloc | apply pw_below_drewN | apply below_drew1) | exact HB.out)) hb); clear HB; have HO216 := n0_; have HB := n1_; clear n0_ n1_; clear hb ho8))
  go_loopg [5, 6] k (fun kq v5 v6 w' => ∃ (x5_1 : List (S26)) (x6_1 : Int), v6 = .int .i64 x6_1 ∧ Aside0 (impl_GroupOf.l0 kq l0 x5_1 x6_1 = some (r1, r2)) ∧ Aside0 (kq ≤ k) ∧ Aside0 (Kd.R k26 26 w' w.heap.size (fun _ => True) v5 x5_1) ∧ Aside0 (Below w.heap.size w w'))
  case atStart => exact ⟨(y214), (0), (by first | rfl | (simp; done) | (simp [*]; done) | (simp [wrap64]; done)), H', ⟨Nat.le_refl _⟩, ⟨by (with_reducible repeat (first | apply Kd.R_alloc | apply Kd.R_drewN | apply Kd.R_drew)); exact HO216.out⟩, ⟨by repeat (first | (with_reducible first | exact HB.out | apply below_alloc | apply pw_below_drewN | apply below_drew1) | exact HB.out)⟩⟩
  case round =>
   clear H'
   try clear c2
   try clear p2
   try clear c3
   try clear c3b0
   try clear c3b1
   try clear c4
   try clear c5
   obtain ⟨x5_1, x6_1, rfl, HA, HK1, HO_5, HB⟩ := hrel
   cases gk with
   | zero => exact absurd HA.out (by simp [impl_GroupOf.l0])
   | succ k1 =>
    have H := HA.out
    clear HA
    simp only [impl_GroupOf.l0] at H
    by_cases c9 : x6_1 < (x5_1.length : Int)
    ·rw [if_pos c9] at H
     have c9b0 : decide (x6_1 < (x5_1.length : Int)) = true := decide_eq_true c9
     clear c9
     have H' := Aside0.mk H
     clear H
     obtain ⟨Ao10, co10, eo10⟩ := Kd.R_slice HO_5.out
     subst eo10
     go_wp2
     go_loopg [5, 26] k1 (fun kq v5 v26 w' => ∃ (x5_2 : List (S26)) (x26_2 : Int), v26 = .int .i64 x26_2 ∧ Aside0 (impl_GroupOf.l1 kq l0 x5_2 x6_1 l0 (l0.length : Int) x26_2 = some (r1, r2)) ∧ Aside0 (kq ≤ k1) ∧ Aside0 (Kd.R k26 26 w' w.heap.size (fun _ => True) v5 x5_2) ∧ Aside0 (Below w.heap.size w w'))
     case atStart => exact ⟨(x5_1), (0), (by first | rfl | (simp; done) | (simp [*]; done) | (simp [wrap64]; done)), H', ⟨Nat.le_refl _⟩, ⟨by (with_reducible repeat (first | apply Kd.R_alloc | apply Kd.R_drewN | apply Kd.R_drew)); exact HO_5.out⟩, ⟨by repeat (first | (with_reducible first | exact HB.out | apply below_alloc | apply pw_below_drewN | apply below_drew1) | exact HB.out)⟩⟩
     case round =>
      clear H'
      try clear c2
      try clear p2
      try clear c3
      try clear c3b0
      try clear c3b1
      try clear c4
      try clear c5
      try clear c9
      try clear c9b0
      try clear p2
      obtain ⟨x5_2, x26_2, rfl, HA, HK2, HO_5, HB⟩ := hrel
      cases gk with
      | zero => exact absurd HA.out (by simp [impl_GroupOf.l1])
      | succ k2 =>
       have H := HA.out
       clear HA
       simp only [impl_GroupOf.l1] at H
       by_cases c11 : x26_2 < (l0.length : Int)
       ·rw [if_pos c11] at H
        have c11b0 : decide (x26_2 < (l0.length : Int)) = true := decide_eq_true c11
        clear c11
        by_cases c12 : 0 ≤ x26_2
        ·rw [if_pos c12] at H
         have c12b0 : decide (0 ≤ x26_2) = true := decide_eq_true c12
         clear c12
         by_cases c13 : x26_2 < (l0.length : Int)
         ·rw [if_pos c13] at H
          have c13b0 : decide (x26_2 < (l0.length : Int)) = true := decide_eq_true c13
          clear c13
          by_cases c14 : 0 ≤ x6_1
          ·rw [if_pos c14] at H
           have c14b0 : decide (0 ≤ x6_1) = true := decide_eq_true c14
           clear c14
           by_cases c15 : x6_1 < (x5_2.length : Int)
           ·rw [if_pos c15] at H
            have c15b0 : decide (x6_1 < (x5_2.length : Int)) = true := decide_eq_true c15
            clear c15
            replace H := Option.bind_eq_some_iff.mp H
            obtain ⟨⟨t220, t221, t222, t223, t224⟩, A160, H⟩ := H
            replace H : (if t224 = true then ((impl_Matrix_51.f k2 x5_2 t220 t221 t222 t223).bind fun t226 => (if t226 = true then (if (x5_2.length : Int) > 48 then (some (([] : List (S26)), 3)) else (impl_GroupOf.l1 k2 l0 x5_2 x6_1 l0 (l0.length : Int) (wrap64 (x26_2 + 1)))) else (if x5_2.length < 4398046511104 then ((some (x5_2 ++ [(⟨(⟨t220, t221⟩ : S22), (⟨t222, t223⟩ : S22)⟩ : S26)] : List (S26))).bind fun y227 => (if (y227.length : Int) > 48 then (some (([] : List (S26)), 3)) else (impl_GroupOf.l1 k2 l0 y227 x6_1 l0 (l0.length : Int) (wrap64 (x26_2 + 1))))) else (none)))) else (some (([] : List (S26)), 3))) = some (r1, r2) := H
            have A16 := Aside0.mk A160
            clear A160
            by_cases c17 : t224 = true
            ·subst c17
             have H1 : ((impl_Matrix_51.f k2 x5_2 t220 t221 t222 t223).bind fun t226 => (if t226 = true then (if (x5_2.length : Int) > 48 then (some (([] : List (S26)), 3)) else (impl_GroupOf.l1 k2 l0 x5_2 x6_1 l0 (l0.length : Int) (wrap64 (x26_2 + 1)))) else (if x5_2.length < 4398046511104 then ((some (x5_2 ++ [(⟨(⟨t220, t221⟩ : S22), (⟨t222, t223⟩ : S22)⟩ : S26)] : List (S26))).bind fun y227 => (if (y227.length : Int) > 48 then (some (([] : List (S26)), 3)) else (impl_GroupOf.l1 k2 l0 y227 x6_1 l0 (l0.length : Int) (wrap64 (x26_2 + 1))))) else (none)))) = some (r1, r2) := by rw [if_pos rfl] at H; exact H
             clear H
             have H := H1
             clear H1
             replace H := Option.bind_eq_some_iff.mp H
             obtain ⟨t226, A180, H⟩ := H
             replace H : (if t226 = true then (if (x5_2.length : Int) > 48 then (some (([] : List (S26)), 3)) else (impl_GroupOf.l1 k2 l0 x5_2 x6_1 l0 (l0.length : Int) (wrap64 (x26_2 + 1)))) else (if x5_2.length < 4398046511104 then ((some (x5_2 ++ [(⟨(⟨t220, t221⟩ : S22), (⟨t222, t223⟩ : S22)⟩ : S26)] : List (S26))).bind fun y227 => (if (y227.length : Int) > 48 then (some (([] : List (S26)), 3)) else (impl_GroupOf.l1 k2 l0 y227 x6_1 l0 (l0.length : Int) (wrap64 (x26_2 + 1))))) else (none))) = some (r1, r2) := H
             have A18 := Aside0.mk A180
             clear A180
             by_cases c19 : t226 = true
             ·subst c19
              have H1 : (if (x5_2.length : Int) > 48 then (some (([] : List (S26)), 3)) else (impl_GroupOf.l1 k2 l0 x5_2 x6_1 l0 (l0.length : Int) (wrap64 (x26_2 + 1)))) = some (r1, r2) := by rw [if_pos rfl] at H; exact H
              clear H
              have H := H1
              clear H1
              by_cases c20 : (x5_2.length : Int) > 48
              ·rw [if_pos c20] at H
               have c20b0 : decide (48 < (x5_2.length : Int)) = true := decide_eq_true c20
               have c20b1 : decide (48 < x5_2.length) = true := decide_eq_true (by omega)
               clear c20
               simp only [Option.some.injEq, Prod.mk.injEq] at H
               obtain ⟨rfl, rfl⟩ := H
               have p217 : 0 ≤ (x26_2 : Int) := of_decide_eq_true (by first | (with_reducible assumption) | assumption)
               have q217 : x26_2 < (l0.length : Int) := of_decide_eq_true (by first | (with_reducible assumption) | assumption)
               obtain ⟨ad217, e217, hx217_0, hx217_1, hx217_2, hx217_3⟩ := at_T26 HR0.out x26_2 p217 q217
               cases e217
               replace hx217_0 := clTr HB.out hx217_0
               replace hx217_1 := clTr HB.out hx217_1
               replace hx217_2 := clTr HB.out hx217_2
               replace hx217_3 := clTr HB.out hx217_3
               replace p217 := eq_true p217
               replace q217 := eq_true q217
               try go_wp2_with (first | ((with_reducible refine gate_dst (N := 8) rfl ?_); refine box_event ?hg (N := 8) ?hd (cs := #[.int .i64 0, .int .i64 0, .int .i64 0, .int .i64 0]) (t := 26) ?hr ?_; (case hd => rfl); (case hg => rfl); (case hr => first | (go_simp; done) | (go_simp; rfl)); intro gb218 hg w21 hbox hb; have n0_ := Aside0.mk (Kd.R_below (Kd.R_elderB (by (with_reducible repeat (first | apply Kd.R_alloc | apply Kd.R_drewN | apply Kd.R_drew)); exact HO_5.out) gb218 (Nat.le_of_eq hg.symm)) hb); have n1_ := Aside0.mk (below_step (by repeat (first | (with_reducible first | exact HB.out | apply below_alloc | apply pw_below_drewN | apply below_drew1) | exact HB.out)) hb); have n2_ := Aside0.mk (hbox); have n3_ := Aside0.mk ((by rw [hg]; exact (below_size (by repeat (first | (with_reducible first | exact HB.out | apply below_alloc | apply pw_below_drewN | apply below_drew1) | exact HB.out))) : w.heap.size ≤ gb218)); have n4_ := Aside0.mk ((by rw [hg]; exact (below_size (by repeat (first | (with_reducible first | exact HB.out | apply below_alloc | apply pw_below_drewN | apply below_drew1) | exact HB.out))) : w.heap.size ≤ gb218)); clear HO_5; clear HB; have HO_5 := n0_; have HB := n1_; have BK218 := n2_; have GW218 := n3_; have GE218 := n4_; clear n0_ n1_ n2_ n3_ n4_; clear hb hbox hg; have hcz22_0 : w21.cell? ⟨gb218, 0, none⟩ = some (.int .i64 0) := (blk_cell BK218.out 0).trans rfl; have hcz22_1 : w21.cell? ⟨gb218, 1, none⟩ = some (.int .i64 0) := (blk_cell BK218.out 1).trans rfl; have hcz22_2 : w21.cell? ⟨gb218, 2, none⟩ = some (.int .i64 0) := (blk_cell BK218.out 2).trans rfl; have hcz22_3 : w21.cell? ⟨gb218, 3, none⟩ = some (.int .i64 0) := (blk_cell BK218.out 3).trans rfl; have hfz22_0 := blk_frozen BK218.out 0; have hfz22_1 := blk_frozen BK218.out 1; have hfz22_2 := blk_frozen BK218.out 2; have hfz22_3 := blk_frozen BK218.out 3))
               have n0_ : Aside0 (Kd.R k26 26 ((((w21.setCell ⟨gb218, 0, none⟩ (.int .i64 ((rd_T26 l0 x26_2).f0.f0))).setCell ⟨gb218, 1, none⟩ (.int .i64 ((rd_T26 l0 x26_2).f0.f1))).setCell ⟨gb218, 2, none⟩ (.int .i64 ((rd_T26 l0 x26_2).f1.f0))).setCell ⟨gb218, 3, none⟩ (.int .i64 ((rd_T26 l0 x26_2).f1.f1))) w.heap.size (fun k_ => k_ ≠ gb218) u5 x5_2) := ⟨by (with_reducible repeat (first | apply Kd.R_alloc | apply Kd.R_drewN | apply Kd.R_drew)); exact Kd.R_mono (Kd.R_far (p := ⟨gb218, 3, none⟩) (Kd.R_far (p := ⟨gb218, 2, none⟩) (Kd.R_far (p := ⟨gb218, 1, none⟩) (Kd.R_far (p := ⟨gb218, 0, none⟩) (Kd.R_mono HO_5.out (fun k_ hk => (⟨hk, hk.2⟩ : _ ∧ k_ ≠ gb218))) (fun _ hk => hk.2) (.int .i64 ((rd_T26 l0 x26_2).f0.f0))) (fun _ hk => hk.2) (.int .i64 ((rd_T26 l0 x26_2).f0.f1))) (fun _ hk => hk.2) (.int .i64 ((rd_T26 l0 x26_2).f1.f0))) (fun _ hk => hk.2) (.int .i64 ((rd_T26 l0 x26_2).f1.f1))) (fun _ hk => hk.1.2)⟩
               have n1_ : Aside0 (((((w21.setCell ⟨gb218, 0, none⟩ (.int .i64 ((rd_T26 l0 x26_2).f0.f0))).setCell ⟨gb218, 1, none⟩ (.int .i64 ((rd_T26 l0 x26_2).f0.f1))).setCell ⟨gb218, 2, none⟩ (.int .i64 ((rd_T26 l0 x26_2).f1.f0))).setCell ⟨gb218, 3, none⟩ (.int .i64 ((rd_T26 l0 x26_2).f1.f1))).heap[gb218]? = some (.cells #[.int .i64 ((rd_T26 l0 x26_2).f0.f0), .int .i64 ((rd_T26 l0 x26_2).f0.f1), .int .i64 ((rd_T26 l0 x26_2).f1.f0), .int .i64 ((rd_T26 l0 x26_2).f1.f1)] 26 (0, 0))) := ⟨by (with_reducible repeat first | apply blk_drewN | apply blk_drew | apply blk_alloc); refine blk_put (cs := #[.int .i64 ((rd_T26 l0 x26_2).f0.f0), .int .i64 ((rd_T26 l0 x26_2).f0.f1), .int .i64 ((rd_T26 l0 x26_2).f1.f0), .int .i64 0]) ?_ 3 _ rfl; (with_reducible repeat first | apply blk_drewN | apply blk_drew | apply blk_alloc); refine blk_put (cs := #[.int .i64 ((rd_T26 l0 x26_2).f0.f0), .int .i64 ((rd_T26 l0 x26_2).f0.f1), .int .i64 0, .int .i64 0]) ?_ 2 _ rfl; (with_reducible repeat first | apply blk_drewN | apply blk_drew | apply blk_alloc); refine blk_put (cs := #[.int .i64 ((rd_T26 l0 x26_2).f0.f0), .int .i64 0, .int .i64 0, .int .i64 0]) ?_ 1 _ rfl; (with_reducible repeat first | apply blk_drewN | apply blk_drew | apply blk_alloc); refine blk_put (cs := #[.int .i64 0, .int .i64 0, .int .i64 0, .int .i64 0]) ?_ 0 _ rfl; (with_reducible repeat first | apply blk_drewN | apply blk_drew | apply blk_alloc); exact BK218.out⟩
               have n2_ : Aside0 (Below w.heap.size w ((((w21.setCell ⟨gb218, 0, none⟩ (.int .i64 ((rd_T26 l0 x26_2).f0.f0))).setCell ⟨gb218, 1, none⟩ (.int .i64 ((rd_T26 l0 x26_2).f0.f1))).setCell ⟨gb218, 2, none⟩ (.int .i64 ((rd_T26 l0 x26_2).f1.f0))).setCell ⟨gb218, 3, none⟩ (.int .i64 ((rd_T26 l0 x26_2).f1.f1)))) := ⟨by repeat (first | (with_reducible first | exact HB.out | apply below_alloc | apply pw_below_drewN | apply below_drew1 | refine below_set ?_ GE218.out) | exact HB.out)⟩
               (try clear HO_5)
               (try clear BK218)
               (try clear HB)
               generalize ((((w21.setCell ⟨gb218, 0, none⟩ (.int .i64 ((rd_T26 l0 x26_2).f0.f0))).setCell ⟨gb218, 1, none⟩ (.int .i64 ((rd_T26 l0 x26_2).f0.f1))).setCell ⟨gb218, 2, none⟩ (.int .i64 ((rd_T26 l0 x26_2).f1.f0))).setCell ⟨gb218, 3, none⟩ (.int .i64 ((rd_T26 l0 x26_2).f1.f1))) = w23 at n0_ n1_ n2_ ⊢
               have HO_5 := n0_
               have BK218 := n1_
               have HB := n2_
               clear n0_ n1_ n2_
               have n0_ := Aside0.mk (Kd.R_drew HO_5.out)
               have n1_ := Aside0.mk (blk_drew BK218.out)
               have n2_ := Aside0.mk (below_drew1 HB.out)
               clear HO_5
               clear BK218
               clear HB
               have HO_5 := n0_
               have BK218 := n1_
               have HB := n2_
               clear n0_ n1_ n2_
               obtain ⟨Ao25, co25, eo25⟩ := Kd.R_slice HO_5.out
               (first | subst eo25 | (injection eo25 with f1_ f2_ f3_; have f4_ := f1_.symm; have f5_ := f3_.symm; clear f1_ f2_ f3_; subst f4_; subst f5_))
               have p219 : 0 ≤ (x6_1 : Int) := of_decide_eq_true (by first | (with_reducible assumption) | assumption)
               have q219 : x6_1 < (x5_2.length : Int) := of_decide_eq_true (by first | (with_reducible assumption) | assumption)
               obtain ⟨ad219, e219, hx219_0, hx219_1, hx219_2, hx219_3⟩ := at_T26 (Kd.R_reads' HO_5.out).2.2 x6_1 p219 q219
               cases e219
               replace p219 := eq_true p219
               replace q219 := eq_true q219
               refine start_ (n := 12) (S := fun w' => w'.cell? ⟨gb218, 0, none⟩ = some (.int .i64 ((rd_T26 l0 x26_2).f0.f0)) ∧ w'.cell? ⟨gb218, 1, none⟩ = some (.int .i64 ((rd_T26 l0 x26_2).f0.f1)) ∧ w'.cell? ⟨gb218, 2, none⟩ = some (.int .i64 ((rd_T26 l0 x26_2).f1.f0)) ∧ w'.cell? ⟨gb218, 3, none⟩ = some (.int .i64 ((rd_T26 l0 x26_2).f1.f1)) ∧ w'.cell? (ad219.add ((x6_1).toNat * 4)) = some (.int .i64 ((rd_T26 x5_2 x6_1).f0.f0)) ∧ w'.cell? ⟨(ad219.add ((x6_1).toNat * 4)).block, (ad219.add ((x6_1).toNat * 4)).off + 1, none⟩ = some (.int .i64 ((rd_T26 x5_2 x6_1).f0.f1)) ∧ w'.cell? ⟨(ad219.add ((x6_1).toNat * 4)).block, (ad219.add ((x6_1).toNat * 4)).off + 2, none⟩ = some (.int .i64 ((rd_T26 x5_2 x6_1).f1.f0)) ∧ w'.cell? ⟨(ad219.add ((x6_1).toNat * 4)).block, (ad219.add ((x6_1).toNat * 4)).off + 3, none⟩ = some (.int .i64 ((rd_T26 x5_2 x6_1).f1.f1))) (ds := []) #[false, false, false, false, false, false, false, false, false, false, false, false] (by kernel_rfl) rfl rfl ⟨(blk_cell BK218.out 0).trans rfl, (blk_cell BK218.out 1).trans rfl, (blk_cell BK218.out 2).trans rfl, (blk_cell BK218.out 3).trans rfl, hx219_0, hx219_1, hx219_2, hx219_3⟩ (fun hHeld => ?_); refine with_tabW impl_GroupOf.tab11 impl_GroupOf.bits11 (fun HT_ HW_ => ?_)
               generalize w23.drew = w24 at HO_5 BK218 HB hx219_0 hx219_1 hx219_2 hx219_3 hHeld ⊢
               refine pure_ (i := 0) (N := some 31) (v := ?_) (a' := ?_) #[true, false, false, false, false, false, false, false, false, false, false, false] rfl rfl (any_of HT_.out (by kernel_rfl)) (fun _ _ _ h => h) (Or.inl ⟨by rfl, ?_⟩) ?_ ?_
               rotate_left
               ·intro w'
                go_simp
                with_reducible rfl
               rotate_left
               ·simp only [Act.put, lstS, lstZ, lstC, i64_w, i32_w]
                rfl
               refine pure_ (i := 1) (N := some 32) (v := ?_) (a' := ?_) #[true, true, false, false, false, false, false, false, false, false, false, false] rfl rfl (any_of HT_.out (by kernel_rfl)) (fun _ _ _ h => h) (Or.inl ⟨by rfl, ?_⟩) ?_ ?_
               rotate_left
               ·intro w'
                go_simp
                with_reducible rfl
               rotate_left
               ·simp only [Act.put, lstS, lstZ, lstC, i64_w, i32_w]
                rfl
               refine pure_ (i := 2) (N := some 33) (v := ?_) (a' := ?_) #[true, true, true, false, false, false, false, false, false, false, false, false] rfl rfl (any_of HT_.out (by kernel_rfl)) (fun _ _ _ h => h) (Or.inl ⟨by rfl, ?_⟩) ?_ ?_
               rotate_left
               ·intro w'
                go_simp
                with_reducible rfl
               rotate_left
               ·simp only [Act.put, lstS, lstZ, lstC, i64_w, i32_w]
                rfl
               refine take_ (i := 3) (N := some 34) (v := ?_) (a' := ?_) #[true, true, true, true, false, false, false, false, false, false, false, false] rfl rfl (take_ofW HT_.out HW_.out (by kernel_rfl)) (fun _ _ _ h => h) (Or.inl ⟨by rfl, ?_⟩) hHeld ?_ ?_
               rotate_left
               ·rintro w' ⟨s0, s1, s2, s3, s4, s5, s6, s7⟩
                go_simp
                with_reducible rfl
               rotate_left
               ·simp only [Act.put, lstS, lstZ, lstC, i64_w, i32_w]
                rfl
               refine take_ (i := 4) (N := some 35) (v := ?_) (a' := ?_) #[true, true, true, true, true, false, false, false, false, false, false, false] rfl rfl (take_ofW HT_.out HW_.out (by kernel_rfl)) (fun _ _ _ h => h) (Or.inl ⟨by rfl, ?_⟩) hHeld ?_ ?_
               rotate_left
               ·rintro w' ⟨s0, s1, s2, s3, s4, s5, s6, s7⟩
                go_simp
                with_reducible rfl
               rotate_left
               ·simp only [Act.put, lstS, lstZ, lstC, i64_w, i32_w]
                rfl
               refine join_ (σ := Nat) 2 #[true, true, true, true, true, true, true, true, true, true, false, false] (fun s_ => [(36, .tuple #[.agg #[.int .i64 t220, .int .i64 t221, .int .i64 t222, .int .i64 t223], .bool true]), (9, .pointer (some ⟨s_, 0, none⟩)), (30, .tuple #[.agg #[.int .i64 t220, .int .i64 t221, .int .i64 t222, .int .i64 t223], .bool true]), (37, .agg #[.int .i64 t220, .int .i64 t221, .int .i64 t222, .int .i64 t223]), (38, .bool true)]) (fun s_ w' => (w'.cell? ⟨gb218, 0, none⟩ = some (.int .i64 ((rd_T26 l0 x26_2).f0.f0)) ∧ w'.cell? ⟨gb218, 1, none⟩ = some (.int .i64 ((rd_T26 l0 x26_2).f0.f1)) ∧ w'.cell? ⟨gb218, 2, none⟩ = some (.int .i64 ((rd_T26 l0 x26_2).f1.f0)) ∧ w'.cell? ⟨gb218, 3, none⟩ = some (.int .i64 ((rd_T26 l0 x26_2).f1.f1)) ∧ w'.cell? (ad219.add ((x6_1).toNat * 4)) = some (.int .i64 ((rd_T26 x5_2 x6_1).f0.f0)) ∧ w'.cell? ⟨(ad219.add ((x6_1).toNat * 4)).block, (ad219.add ((x6_1).toNat * 4)).off + 1, none⟩ = some (.int .i64 ((rd_T26 x5_2 x6_1).f0.f1)) ∧ w'.cell? ⟨(ad219.add ((x6_1).toNat * 4)).block, (ad219.add ((x6_1).toNat * 4)).off + 2, none⟩ = some (.int .i64 ((rd_T26 x5_2 x6_1).f1.f0)) ∧ w'.cell? ⟨(ad219.add ((x6_1).toNat * 4)).block, (ad219.add ((x6_1).toNat * 4)).off + 3, none⟩ = some (.int .i64 ((rd_T26 x5_2 x6_1).f1.f1))) ∧ (Kd.R k26 26 w' w.heap.size (fun k_ => k_ ≠ gb218 ∧ k_ ≠ s_) (.slice (some ad219) x5_2.length co25) x5_2) ∧ (w'.heap[gb218]? = some (.cells #[.int .i64 ((rd_T26 l0 x26_2).f0.f0), .int .i64 ((rd_T26 l0 x26_2).f0.f1), .int .i64 ((rd_T26 l0 x26_2).f1.f0), .int .i64 ((rd_T26 l0 x26_2).f1.f1)] 26 (0, 0))) ∧ (w'.heap[s_]? = some (.cells #[.int .i64 0, .int .i64 0, .int .i64 0, .int .i64 0] 26 (0, 0))) ∧ (w.heap.size ≤ s_) ∧ (w.heap.size ≤ s_) ∧ (gb218 ≠ s_) ∧ (s_ ≠ gb218) ∧ (Below w.heap.size w w')) ?_ ?_
               rotate_left
               ·intro hCont
                refine two_ (i := 5) (j := 9) (Ni := some 36) (Nj := some 9) #[true, true, true, true, true, true, false, false, false, false, false, false] #[true, true, true, true, true, false, false, false, false, true, false, false] rfl rfl rfl rfl (two_of HT_.out (by kernel_rfl)) (by decide) (by decide) (fun K hK => ?_) (fun K hK => ?_)
                ·skip
                 refine goes_ Try.func44 (by kernel_rfl) rfl #[.agg #[.int .i64 ((rd_T26 x5_2 x6_1).f0.f0), .int .i64 ((rd_T26 x5_2 x6_1).f0.f1), .int .i64 ((rd_T26 x5_2 x6_1).f1.f0), .int .i64 ((rd_T26 x5_2 x6_1).f1.f1)], .agg #[.int .i64 ((rd_T26 l0 x26_2).f0.f0), .int .i64 ((rd_T26 l0 x26_2).f0.f1), .int .i64 ((rd_T26 l0 x26_2).f1.f0), .int .i64 ((rd_T26 l0 x26_2).f1.f1)]] (by rfl) rfl rfl (by (try simp only [List.map_toArray, List.map_cons, List.map_nil]); first | done | rfl | (simp only [List.length_drop, List.length_take]; rfl)) ?_
                 with_reducible refine (impl_product.calls k2 ((rd_T26 x5_2 x6_1).f0.f0) ((rd_T26 x5_2 x6_1).f0.f1) ((rd_T26 x5_2 x6_1).f1.f0) ((rd_T26 x5_2 x6_1).f1.f1) ((rd_T26 l0 x26_2).f0.f0) ((rd_T26 l0 x26_2).f0.f1) ((rd_T26 l0 x26_2).f1.f0) ((rd_T26 l0 x26_2).f1.f1) t220 t221 t222 t223 true _ A16.out).mono ?_
                 rintro e w26 ⟨rfl, hb⟩
                 have HS4_ := (hb.cell (World.block_lt_of_cell? _ _ (hHeld.2.2.2.2.1))).trans (hHeld.2.2.2.2.1)
                 have HS5_ := (hb.cell (World.block_lt_of_cell? _ _ (hHeld.2.2.2.2.2.1))).trans (hHeld.2.2.2.2.2.1)
                 have HS6_ := (hb.cell (World.block_lt_of_cell? _ _ (hHeld.2.2.2.2.2.2.1))).trans (hHeld.2.2.2.2.2.2.1)
                 have HS7_ := (hb.cell (World.block_lt_of_cell? _ _ (hHeld.2.2.2.2.2.2.2))).trans (hHeld.2.2.2.2.2.2.2)
                 refine ⟨_, rfl, ?_⟩
                 have n0_ := Aside0.mk (Kd.R_below (by (with_reducible repeat (first | apply Kd.R_alloc | apply Kd.R_drewN | apply Kd.R_drew)); exact HO_5.out) hb)
                 have n1_ := Aside0.mk (blk_below (g := gb218) (o := .cells #[.int .i64 ((rd_T26 l0 x26_2).f0.f0), .int .i64 ((rd_T26 l0 x26_2).f0.f1), .int .i64 ((rd_T26 l0 x26_2).f1.f0), .int .i64 ((rd_T26 l0 x26_2).f1.f1)] 26 (0, 0)) (by (with_reducible repeat first | apply blk_drewN | apply blk_drew | apply blk_alloc); exact BK218.out) hb)
                 have n2_ := Aside0.mk (below_step (by repeat (first | (with_reducible first | exact HB.out | apply below_alloc | apply pw_below_drewN | apply below_drew1 | refine below_set ?_ GE218.out) | exact HB.out)) hb)
                 clear HO_5
                 clear BK218
                 clear HB
                 have HO_5 := n0_
                 have BK218 := n1_
                 have HB := n2_
                 clear n0_ n1_ n2_
                 (try clear hb)
                 (try clear hb2)
                 (try clear hk)
                 (try clear hi)
                 refine hK.out _ _ ⟨(blk_cell BK218.out 0).trans rfl, (blk_cell BK218.out 1).trans rfl, (blk_cell BK218.out 2).trans rfl, (blk_cell BK218.out 3).trans rfl, HS4_, HS5_, HS6_, HS7_⟩ (fun hHeld => ?_)
                 clear hK K
                 refine norm_ (a' := ?_) ?_ ?_
                 rotate_left
                 ·show Act.put _ (some 36) _ = _
                  simp only [Act.put, lstS, lstZ, lstC, i64_w, i32_w]
                  rfl
                 refine pure_ (i := 6) (N := some 30) (v := ?_) (a' := ?_) #[true, true, true, true, true, true, true, false, false, false, false, false] rfl rfl (any_of HT_.out (by kernel_rfl)) (fun _ _ _ h => h) (Or.inl ⟨by rfl, ?_⟩) ?_ ?_
                 rotate_left
                 ·intro w'
                  go_simp
                  with_reducible rfl
                 rotate_left
                 ·simp only [Act.put, lstS, lstZ, lstC, i64_w, i32_w]
                  rfl
                 refine pure_ (i := 7) (N := some 37) (v := ?_) (a' := ?_) #[true, true, true, true, true, true, true, true, false, false, false, false] rfl rfl (any_of HT_.out (by kernel_rfl)) (fun _ _ _ h => h) (Or.inl ⟨by rfl, ?_⟩) ?_ ?_
                 rotate_left
                 ·intro w'
                  go_simp
                  with_reducible rfl
                 rotate_left
                 ·simp only [Act.put, lstS, lstZ, lstC, i64_w, i32_w]
                  rfl
                 refine pure_ (i := 8) (N := some 38) (v := ?_) (a' := ?_) #[true, true, true, true, true, true, true, true, true, false, false, false] rfl rfl (any_of HT_.out (by kernel_rfl)) (fun _ _ _ h => h) (Or.inl ⟨by rfl, ?_⟩) ?_ ?_
                 rotate_left
                 ·intro w'
                  go_simp
                  with_reducible rfl
                 rotate_left
                 ·simp only [Act.put, lstS, lstZ, lstC, i64_w, i32_w]
                  rfl
                 refine one_ (i := 9) (N := some 9) #[true, true, true, true, true, true, true, true, true, true, false, false] rfl rfl (one_of HT_.out (by kernel_rfl)) (by decide) (fun K hK => ?_)
                 refine box_step ?hg (N := 9) ?hd (cs := #[.int .i64 0, .int .i64 0, .int .i64 0, .int .i64 0]) (t := 26) ?hr ?_; (case hd => rfl); (case hg => rfl); (case hr => first | (go_simp; done) | (go_simp; rfl))
                 intro gb225 hg w27 hbox hb
                 have HS4_ := (hb.cell (World.block_lt_of_cell? _ _ (hHeld.2.2.2.2.1))).trans (hHeld.2.2.2.2.1)
                 have HS5_ := (hb.cell (World.block_lt_of_cell? _ _ (hHeld.2.2.2.2.2.1))).trans (hHeld.2.2.2.2.2.1)
                 have HS6_ := (hb.cell (World.block_lt_of_cell? _ _ (hHeld.2.2.2.2.2.2.1))).trans (hHeld.2.2.2.2.2.2.1)
                 have HS7_ := (hb.cell (World.block_lt_of_cell? _ _ (hHeld.2.2.2.2.2.2.2))).trans (hHeld.2.2.2.2.2.2.2)
                 have n0_ := Aside0.mk (Kd.R_below (Kd.R_elderB (by (with_reducible repeat (first | apply Kd.R_alloc | apply Kd.R_drewN | apply Kd.R_drew)); exact HO_5.out) gb225 (Nat.le_of_eq hg.symm)) hb)
                 have n1_ := Aside0.mk (blk_below (g := gb218) (o := .cells #[.int .i64 ((rd_T26 l0 x26_2).f0.f0), .int .i64 ((rd_T26 l0 x26_2).f0.f1), .int .i64 ((rd_T26 l0 x26_2).f1.f0), .int .i64 ((rd_T26 l0 x26_2).f1.f1)] 26 (0, 0)) (by (with_reducible repeat first | apply blk_drewN | apply blk_drew | apply blk_alloc); exact BK218.out) hb)
                 have n2_ := Aside0.mk (below_step (by repeat (first | (with_reducible first | exact HB.out | apply below_alloc | apply pw_below_drewN | apply below_drew1 | refine below_set ?_ GE218.out) | exact HB.out)) hb)
                 have n3_ := Aside0.mk (hbox)
                 have n4_ := Aside0.mk ((by rw [hg]; exact (below_size (by repeat (first | (with_reducible first | exact HB.out | apply below_alloc | apply pw_below_drewN | apply below_drew1 | refine below_set ?_ GE218.out) | exact HB.out))) : w.heap.size ≤ gb225))
                 have n5_ := Aside0.mk ((by rw [hg]; exact (below_size (by repeat (first | (with_reducible first | exact HB.out | apply below_alloc | apply pw_below_drewN | apply below_drew1 | refine below_set ?_ GE218.out) | exact HB.out))) : w.heap.size ≤ gb225))
                 have n6_ := Aside0.mk ((by rw [hg]; exact Nat.ne_of_lt (blk_lt (g := gb218) (o := .cells #[.int .i64 ((rd_T26 l0 x26_2).f0.f0), .int .i64 ((rd_T26 l0 x26_2).f0.f1), .int .i64 ((rd_T26 l0 x26_2).f1.f0), .int .i64 ((rd_T26 l0 x26_2).f1.f1)] 26 (0, 0)) (by (with_reducible repeat first | apply blk_drewN | apply blk_drew | apply blk_alloc); exact BK218.out)) : gb218 ≠ gb225))
                 have n7_ := Aside0.mk ((by rw [hg]; exact Nat.ne_of_gt (blk_lt (g := gb218) (o := .cells #[.int .i64 ((rd_T26 l0 x26_2).f0.f0), .int .i64 ((rd_T26 l0 x26_2).f0.f1), .int .i64 ((rd_T26 l0 x26_2).f1.f0), .int .i64 ((rd_T26 l0 x26_2).f1.f1)] 26 (0, 0)) (by (with_reducible repeat first | apply blk_drewN | apply blk_drew | apply blk_alloc); exact BK218.out)) : gb225 ≠ gb218))
                 clear HO_5
                 clear BK218
                 clear HB
                 have HO_5 := n0_
                 have BK218 := n1_
                 have HB := n2_
                 have BK225 := n3_
                 have GW225 := n4_
                 have GE225 := n5_
                 have NB218_225 := n6_
                 have NB225_218 := n7_
                 clear n0_ n1_ n2_ n3_ n4_ n5_ n6_ n7_
                 clear hb hbox hg
                 refine hK.out _ _ ⟨(blk_cell BK218.out 0).trans rfl, (blk_cell BK218.out 1).trans rfl, (blk_cell BK218.out 2).trans rfl, (blk_cell BK218.out 3).trans rfl, HS4_, HS5_, HS6_, HS7_⟩ (fun hHeld => ?_)
                 clear hK K
                 refine norm_ (a' := ?_) ?_ ?_
                 rotate_left
                 ·show Act.put _ (some 9) _ = _
                  simp only [Act.put, lstS, lstZ, lstC, i64_w, i32_w]
                  rfl
                 exact norm_ (by simp only [putAll, Act.put, lstS, lstZ, lstC]) (hCont (gb225) _ ⟨hHeld, (by (with_reducible repeat (first | apply Kd.R_alloc | apply Kd.R_drewN | apply Kd.R_drew)); exact HO_5.out), (by (with_reducible repeat first | apply blk_drewN | apply blk_drew | apply blk_alloc); exact BK218.out), (by (with_reducible repeat first | apply blk_drewN | apply blk_drew | apply blk_alloc); exact BK225.out), GW225.out, GE225.out, NB218_225.out, NB225_218.out, (by repeat (first | (with_reducible first | exact HB.out | apply below_alloc | apply pw_below_drewN | apply below_drew1 | refine below_set ?_ GE218.out | refine below_set ?_ GE225.out) | exact HB.out))⟩)
                ·skip
                 refine box_step ?hg (N := 9) ?hd (cs := #[.int .i64 0, .int .i64 0, .int .i64 0, .int .i64 0]) (t := 26) ?hr ?_; (case hd => rfl); (case hg => rfl); (case hr => first | (go_simp; done) | (go_simp; rfl))
                 intro gb225 hg w26 hbox hb
                 have HS4_ := (hb.cell (World.block_lt_of_cell? _ _ (hHeld.2.2.2.2.1))).trans (hHeld.2.2.2.2.1)
                 have HS5_ := (hb.cell (World.block_lt_of_cell? _ _ (hHeld.2.2.2.2.2.1))).trans (hHeld.2.2.2.2.2.1)
                 have HS6_ := (hb.cell (World.block_lt_of_cell? _ _ (hHeld.2.2.2.2.2.2.1))).trans (hHeld.2.2.2.2.2.2.1)
                 have HS7_ := (hb.cell (World.block_lt_of_cell? _ _ (hHeld.2.2.2.2.2.2.2))).trans (hHeld.2.2.2.2.2.2.2)
                 have n0_ := Aside0.mk (Kd.R_below (Kd.R_elderB (by (with_reducible repeat (first | apply Kd.R_alloc | apply Kd.R_drewN | apply Kd.R_drew)); exact HO_5.out) gb225 (Nat.le_of_eq hg.symm)) hb)
                 have n1_ := Aside0.mk (blk_below (g := gb218) (o := .cells #[.int .i64 ((rd_T26 l0 x26_2).f0.f0), .int .i64 ((rd_T26 l0 x26_2).f0.f1), .int .i64 ((rd_T26 l0 x26_2).f1.f0), .int .i64 ((rd_T26 l0 x26_2).f1.f1)] 26 (0, 0)) (by (with_reducible repeat first | apply blk_drewN | apply blk_drew | apply blk_alloc); exact BK218.out) hb)
                 have n2_ := Aside0.mk (below_step (by repeat (first | (with_reducible first | exact HB.out | apply below_alloc | apply pw_below_drewN | apply below_drew1 | refine below_set ?_ GE218.out) | exact HB.out)) hb)
                 have n3_ := Aside0.mk (hbox)
                 have n4_ := Aside0.mk ((by rw [hg]; exact (below_size (by repeat (first | (with_reducible first | exact HB.out | apply below_alloc | apply pw_below_drewN | apply below_drew1 | refine below_set ?_ GE218.out) | exact HB.out))) : w.heap.size ≤ gb225))
                 have n5_ := Aside0.mk ((by rw [hg]; exact (below_size (by repeat (first | (with_reducible first | exact HB.out | apply below_alloc | apply pw_below_drewN | apply below_drew1 | refine below_set ?_ GE218.out) | exact HB.out))) : w.heap.size ≤ gb225))
                 have n6_ := Aside0.mk ((by rw [hg]; exact Nat.ne_of_lt (blk_lt (g := gb218) (o := .cells #[.int .i64 ((rd_T26 l0 x26_2).f0.f0), .int .i64 ((rd_T26 l0 x26_2).f0.f1), .int .i64 ((rd_T26 l0 x26_2).f1.f0), .int .i64 ((rd_T26 l0 x26_2).f1.f1)] 26 (0, 0)) (by (with_reducible repeat first | apply blk_drewN | apply blk_drew | apply blk_alloc); exact BK218.out)) : gb218 ≠ gb225))
                 have n7_ := Aside0.mk ((by rw [hg]; exact Nat.ne_of_gt (blk_lt (g := gb218) (o := .cells #[.int .i64 ((rd_T26 l0 x26_2).f0.f0), .int .i64 ((rd_T26 l0 x26_2).f0.f1), .int .i64 ((rd_T26 l0 x26_2).f1.f0), .int .i64 ((rd_T26 l0 x26_2).f1.f1)] 26 (0, 0)) (by (with_reducible repeat first | apply blk_drewN | apply blk_drew | apply blk_alloc); exact BK218.out)) : gb225 ≠ gb218))
                 clear HO_5
                 clear BK218
                 clear HB
                 have HO_5 := n0_
                 have BK218 := n1_
                 have HB := n2_
                 have BK225 := n3_
                 have GW225 := n4_
                 have GE225 := n5_
                 have NB218_225 := n6_
                 have NB225_218 := n7_
                 clear n0_ n1_ n2_ n3_ n4_ n5_ n6_ n7_
                 clear hb hbox hg
                 refine hK.out _ _ ⟨(blk_cell BK218.out 0).trans rfl, (blk_cell BK218.out 1).trans rfl, (blk_cell BK218.out 2).trans rfl, (blk_cell BK218.out 3).trans rfl, HS4_, HS5_, HS6_, HS7_⟩ (fun hHeld => ?_)
                 clear hK K
                 refine norm_ (a' := ?_) ?_ ?_
                 rotate_left
                 ·show Act.put _ (some 9) _ = _
                  simp only [Act.put, lstS, lstZ, lstC, i64_w, i32_w]
                  rfl
                 refine one_ (i := 5) (N := some 36) #[true, true, true, true, true, true, false, false, false, true, false, false] rfl rfl (one_of HT_.out (by kernel_rfl)) (by decide) (fun K hK => ?_)
                 refine goes_ Try.func44 (by kernel_rfl) rfl #[.agg #[.int .i64 ((rd_T26 x5_2 x6_1).f0.f0), .int .i64 ((rd_T26 x5_2 x6_1).f0.f1), .int .i64 ((rd_T26 x5_2 x6_1).f1.f0), .int .i64 ((rd_T26 x5_2 x6_1).f1.f1)], .agg #[.int .i64 ((rd_T26 l0 x26_2).f0.f0), .int .i64 ((rd_T26 l0 x26_2).f0.f1), .int .i64 ((rd_T26 l0 x26_2).f1.f0), .int .i64 ((rd_T26 l0 x26_2).f1.f1)]] (by rfl) rfl rfl (by (try simp only [List.map_toArray, List.map_cons, List.map_nil]); first | done | rfl | (simp only [List.length_drop, List.length_take]; rfl)) ?_
                 with_reducible refine (impl_product.calls k2 ((rd_T26 x5_2 x6_1).f0.f0) ((rd_T26 x5_2 x6_1).f0.f1) ((rd_T26 x5_2 x6_1).f1.f0) ((rd_T26 x5_2 x6_1).f1.f1) ((rd_T26 l0 x26_2).f0.f0) ((rd_T26 l0 x26_2).f0.f1) ((rd_T26 l0 x26_2).f1.f0) ((rd_T26 l0 x26_2).f1.f1) t220 t221 t222 t223 true _ A16.out).mono ?_
                 rintro e w27 ⟨rfl, hb⟩
                 have HS4_ := (hb.cell (World.block_lt_of_cell? _ _ (hHeld.2.2.2.2.1))).trans (hHeld.2.2.2.2.1)
                 have HS5_ := (hb.cell (World.block_lt_of_cell? _ _ (hHeld.2.2.2.2.2.1))).trans (hHeld.2.2.2.2.2.1)
                 have HS6_ := (hb.cell (World.block_lt_of_cell? _ _ (hHeld.2.2.2.2.2.2.1))).trans (hHeld.2.2.2.2.2.2.1)
                 have HS7_ := (hb.cell (World.block_lt_of_cell? _ _ (hHeld.2.2.2.2.2.2.2))).trans (hHeld.2.2.2.2.2.2.2)
                 refine ⟨_, rfl, ?_⟩
                 have n0_ := Aside0.mk (Kd.R_below (by (with_reducible repeat (first | apply Kd.R_alloc | apply Kd.R_drewN | apply Kd.R_drew)); exact HO_5.out) hb)
                 have n1_ := Aside0.mk (blk_below (g := gb218) (o := .cells #[.int .i64 ((rd_T26 l0 x26_2).f0.f0), .int .i64 ((rd_T26 l0 x26_2).f0.f1), .int .i64 ((rd_T26 l0 x26_2).f1.f0), .int .i64 ((rd_T26 l0 x26_2).f1.f1)] 26 (0, 0)) (by (with_reducible repeat first | apply blk_drewN | apply blk_drew | apply blk_alloc); exact BK218.out) hb)
                 have n2_ := Aside0.mk (blk_below (g := gb225) (o := .cells #[.int .i64 0, .int .i64 0, .int .i64 0, .int .i64 0] 26 (0, 0)) (by (with_reducible repeat first | apply blk_drewN | apply blk_drew | apply blk_alloc); exact BK225.out) hb)
                 have n3_ := Aside0.mk (below_step (by repeat (first | (with_reducible first | exact HB.out | apply below_alloc | apply pw_below_drewN | apply below_drew1 | refine below_set ?_ GE218.out | refine below_set ?_ GE225.out) | exact HB.out)) hb)
                 clear HO_5
                 clear BK218
                 clear BK225
                 clear HB
                 have HO_5 := n0_
                 have BK218 := n1_
                 have BK225 := n2_
                 have HB := n3_
                 clear n0_ n1_ n2_ n3_
                 (try clear hb)
                 (try clear hb2)
                 (try clear hk)
                 (try clear hi)
                 refine hK.out _ _ ⟨(blk_cell BK218.out 0).trans rfl, (blk_cell BK218.out 1).trans rfl, (blk_cell BK218.out 2).trans rfl, (blk_cell BK218.out 3).trans rfl, HS4_, HS5_, HS6_, HS7_⟩ (fun hHeld => ?_)
                 clear hK K
                 refine norm_ (a' := ?_) ?_ ?_
                 rotate_left
                 ·show Act.put _ (some 36) _ = _
                  simp only [Act.put, lstS, lstZ, lstC, i64_w, i32_w]
                  rfl
                 refine pure_ (i := 6) (N := some 30) (v := ?_) (a' := ?_) #[true, true, true, true, true, true, true, false, false, true, false, false] rfl rfl (any_of HT_.out (by kernel_rfl)) (fun _ _ _ h => h) (Or.inl ⟨by rfl, ?_⟩) ?_ ?_
                 rotate_left
                 ·intro w'
                  go_simp
                  with_reducible rfl
                 rotate_left
                 ·simp only [Act.put, lstS, lstZ, lstC, i64_w, i32_w]
                  rfl
                 refine pure_ (i := 7) (N := some 37) (v := ?_) (a' := ?_) #[true, true, true, true, true, true, true, true, false, true, false, false] rfl rfl (any_of HT_.out (by kernel_rfl)) (fun _ _ _ h => h) (Or.inl ⟨by rfl, ?_⟩) ?_ ?_
                 rotate_left
                 ·intro w'
                  go_simp
                  with_reducible rfl
                 rotate_left
                 ·simp only [Act.put, lstS, lstZ, lstC, i64_w, i32_w]
                  rfl
                 refine pure_ (i := 8) (N := some 38) (v := ?_) (a' := ?_) #[true, true, true, true, true, true, true, true, true, true, false, false] rfl rfl (any_of HT_.out (by kernel_rfl)) (fun _ _ _ h => h) (Or.inl ⟨by rfl, ?_⟩) ?_ ?_
                 rotate_left
                 ·intro w'
                  go_simp
                  with_reducible rfl
                 rotate_left
                 ·simp only [Act.put, lstS, lstZ, lstC, i64_w, i32_w]
                  rfl
                 exact norm_ (by simp only [putAll, Act.put, lstS, lstZ, lstC]) (hCont (gb225) _ ⟨hHeld, (by (with_reducible repeat (first | apply Kd.R_alloc | apply Kd.R_drewN | apply Kd.R_drew)); exact HO_5.out), (by (with_reducible repeat first | apply blk_drewN | apply blk_drew | apply blk_alloc); exact BK218.out), (by (with_reducible repeat first | apply blk_drewN | apply blk_drew | apply blk_alloc); exact BK225.out), GW225.out, GE225.out, NB218_225.out, NB225_218.out, (by repeat (first | (with_reducible first | exact HB.out | apply below_alloc | apply pw_below_drewN | apply below_drew1 | refine below_set ?_ GE218.out | refine below_set ?_ GE225.out) | exact HB.out))⟩)
               rintro gb225 w28 ⟨hS_, h0_, h1_, h2_, h3_, h4_, h5_, h6_, h7_⟩
               have n0_ : Aside0 (Kd.R k26 26 w28 w.heap.size (fun k_ => k_ ≠ gb218 ∧ k_ ≠ gb225) (.slice (some ad219) x5_2.length co25) x5_2) := ⟨h0_⟩
               have n1_ : Aside0 (w28.heap[gb218]? = some (.cells #[.int .i64 ((rd_T26 l0 x26_2).f0.f0), .int .i64 ((rd_T26 l0 x26_2).f0.f1), .int .i64 ((rd_T26 l0 x26_2).f1.f0), .int .i64 ((rd_T26 l0 x26_2).f1.f1)] 26 (0, 0))) := ⟨h1_⟩
               have n2_ : Aside0 (w28.heap[gb225]? = some (.cells #[.int .i64 0, .int .i64 0, .int .i64 0, .int .i64 0] 26 (0, 0))) := ⟨h2_⟩
               have n3_ : Aside0 (w.heap.size ≤ gb225) := ⟨h3_⟩
               have n4_ : Aside0 (w.heap.size ≤ gb225) := ⟨h4_⟩
               have n5_ : Aside0 (gb218 ≠ gb225) := ⟨h5_⟩
               have n6_ : Aside0 (gb225 ≠ gb218) := ⟨h6_⟩
               have n7_ : Aside0 (Below w.heap.size w w28) := ⟨h7_⟩
               clear HO_5
               clear BK218
               clear HB
               clear h0_ h1_ h2_ h3_ h4_ h5_ h6_ h7_
               have HO_5 := n0_
               have BK218 := n1_
               have BK225 := n2_
               have GW225 := n3_
               have GE225 := n4_
               have NB218_225 := n5_
               have NB225_218 := n6_
               have HB := n7_
               clear n0_ n1_ n2_ n3_ n4_ n5_ n6_ n7_
               have hHeld : w28.cell? ⟨gb218, 0, none⟩ = some (.int .i64 ((rd_T26 l0 x26_2).f0.f0)) ∧ w28.cell? ⟨gb218, 1, none⟩ = some (.int .i64 ((rd_T26 l0 x26_2).f0.f1)) ∧ w28.cell? ⟨gb218, 2, none⟩ = some (.int .i64 ((rd_T26 l0 x26_2).f1.f0)) ∧ w28.cell? ⟨gb218, 3, none⟩ = some (.int .i64 ((rd_T26 l0 x26_2).f1.f1)) ∧ w28.cell? (ad219.add ((x6_1).toNat * 4)) = some (.int .i64 ((rd_T26 x5_2 x6_1).f0.f0)) ∧ w28.cell? ⟨(ad219.add ((x6_1).toNat * 4)).block, (ad219.add ((x6_1).toNat * 4)).off + 1, none⟩ = some (.int .i64 ((rd_T26 x5_2 x6_1).f0.f1)) ∧ w28.cell? ⟨(ad219.add ((x6_1).toNat * 4)).block, (ad219.add ((x6_1).toNat * 4)).off + 2, none⟩ = some (.int .i64 ((rd_T26 x5_2 x6_1).f1.f0)) ∧ w28.cell? ⟨(ad219.add ((x6_1).toNat * 4)).block, (ad219.add ((x6_1).toNat * 4)).off + 3, none⟩ = some (.int .i64 ((rd_T26 x5_2 x6_1).f1.f1)) := hS_
               refine norm_ (a' := ?_) ?_ ?_
               rotate_left
               ·simp only [putAll, Act.put, lstS, lstZ, lstC]
                rfl
               refine one_ (i := 10) (N := none) #[true, true, true, true, true, true, true, true, true, true, true, false] rfl rfl (one_of HT_.out (by kernel_rfl)) (by decide) (fun K hK => ?_)
               have hs29 : w28.cell? ⟨gb225, 0, none⟩ = some (.int .i64 0) := (blk_cell BK225.out 0).trans rfl
               have hfs29 := blk_frozen BK225.out 0
               have hns29_0 := NB218_225.out
               have hms29_0 := NB225_218.out
               have hs30 : w28.cell? ⟨gb225, 1, none⟩ = some (.int .i64 0) := (blk_cell BK225.out 1).trans rfl
               have hfs30 := blk_frozen BK225.out 1
               have hns30_0 := NB218_225.out
               have hms30_0 := NB225_218.out
               have hs31 : w28.cell? ⟨gb225, 2, none⟩ = some (.int .i64 0) := (blk_cell BK225.out 2).trans rfl
               have hfs31 := blk_frozen BK225.out 2
               have hns31_0 := NB218_225.out
               have hms31_0 := NB225_218.out
               have hs32 : w28.cell? ⟨gb225, 3, none⟩ = some (.int .i64 0) := (blk_cell BK225.out 3).trans rfl
               have hfs32 := blk_frozen BK225.out 3
               have hns32_0 := NB218_225.out
               have hms32_0 := NB225_218.out
               refine skip_ (w1 := ?_) (by rfl) rfl ?_ ?_
               rotate_left
               ·go_simp
                rfl
               refine hK.out _ _ ⟨((cell_far (p := ⟨gb225, _, none⟩) NB218_225.out _).trans (((cell_far (p := ⟨gb225, _, none⟩) NB218_225.out _).trans (((cell_far (p := ⟨gb225, _, none⟩) NB218_225.out _).trans (((cell_far (p := ⟨gb225, _, none⟩) NB218_225.out _).trans (hHeld.1)))))))), ((cell_far (p := ⟨gb225, _, none⟩) NB218_225.out _).trans (((cell_far (p := ⟨gb225, _, none⟩) NB218_225.out _).trans (((cell_far (p := ⟨gb225, _, none⟩) NB218_225.out _).trans (((cell_far (p := ⟨gb225, _, none⟩) NB218_225.out _).trans (hHeld.2.1)))))))), ((cell_far (p := ⟨gb225, _, none⟩) NB218_225.out _).trans (((cell_far (p := ⟨gb225, _, none⟩) NB218_225.out _).trans (((cell_far (p := ⟨gb225, _, none⟩) NB218_225.out _).trans (((cell_far (p := ⟨gb225, _, none⟩) NB218_225.out _).trans (hHeld.2.2.1)))))))), ((cell_far (p := ⟨gb225, _, none⟩) NB218_225.out _).trans (((cell_far (p := ⟨gb225, _, none⟩) NB218_225.out _).trans (((cell_far (p := ⟨gb225, _, none⟩) NB218_225.out _).trans (((cell_far (p := ⟨gb225, _, none⟩) NB218_225.out _).trans (hHeld.2.2.2.1)))))))), ((cell_far (p := ⟨gb225, _, none⟩) (by first | exact Kd.own_blk (Kd.R_away HO_5.out (fun _ hk => hk.2)) | (rw [add_block]; exact Kd.own_blk (Kd.R_away HO_5.out (fun _ hk => hk.2))) | (show (Addr.add _ _).block ≠ _; rw [add_block]; exact Kd.own_blk (Kd.R_away HO_5.out (fun _ hk => hk.2))) | (dsimp only; exact Kd.own_blk (Kd.R_away HO_5.out (fun _ hk => hk.2)))) _).trans (((cell_far (p := ⟨gb225, _, none⟩) (by first | exact Kd.own_blk (Kd.R_away HO_5.out (fun _ hk => hk.2)) | (rw [add_block]; exact Kd.own_blk (Kd.R_away HO_5.out (fun _ hk => hk.2))) | (show (Addr.add _ _).block ≠ _; rw [add_block]; exact Kd.own_blk (Kd.R_away HO_5.out (fun _ hk => hk.2))) | (dsimp only; exact Kd.own_blk (Kd.R_away HO_5.out (fun _ hk => hk.2)))) _).trans (((cell_far (p := ⟨gb225, _, none⟩) (by first | exact Kd.own_blk (Kd.R_away HO_5.out (fun _ hk => hk.2)) | (rw [add_block]; exact Kd.own_blk (Kd.R_away HO_5.out (fun _ hk => hk.2))) | (show (Addr.add _ _).block ≠ _; rw [add_block]; exact Kd.own_blk (Kd.R_away HO_5.out (fun _ hk => hk.2))) | (dsimp only; exact Kd.own_blk (Kd.R_away HO_5.out (fun _ hk => hk.2)))) _).trans (((cell_far (p := ⟨gb225, _, none⟩) (by first | exact Kd.own_blk (Kd.R_away HO_5.out (fun _ hk => hk.2)) | (rw [add_block]; exact Kd.own_blk (Kd.R_away HO_5.out (fun _ hk => hk.2))) | (show (Addr.add _ _).block ≠ _; rw [add_block]; exact Kd.own_blk (Kd.R_away HO_5.out (fun _ hk => hk.2))) | (dsimp only; exact Kd.own_blk (Kd.R_away HO_5.out (fun _ hk => hk.2)))) _).trans (hHeld.2.2.2.2.1)))))))), ((cell_far (p := ⟨gb225, _, none⟩) (by first | exact Kd.own_blk (Kd.R_away HO_5.out (fun _ hk => hk.2)) | (rw [add_block]; exact Kd.own_blk (Kd.R_away HO_5.out (fun _ hk => hk.2))) | (show (Addr.add _ _).block ≠ _; rw [add_block]; exact Kd.own_blk (Kd.R_away HO_5.out (fun _ hk => hk.2))) | (dsimp only; exact Kd.own_blk (Kd.R_away HO_5.out (fun _ hk => hk.2)))) _).trans (((cell_far (p := ⟨gb225, _, none⟩) (by first | exact Kd.own_blk (Kd.R_away HO_5.out (fun _ hk => hk.2)) | (rw [add_block]; exact Kd.own_blk (Kd.R_away HO_5.out (fun _ hk => hk.2))) | (show (Addr.add _ _).block ≠ _; rw [add_block]; exact Kd.own_blk (Kd.R_away HO_5.out (fun _ hk => hk.2))) | (dsimp only; exact Kd.own_blk (Kd.R_away HO_5.out (fun _ hk => hk.2)))) _).trans (((cell_far (p := ⟨gb225, _, none⟩) (by first | exact Kd.own_blk (Kd.R_away HO_5.out (fun _ hk => hk.2)) | (rw [add_block]; exact Kd.own_blk (Kd.R_away HO_5.out (fun _ hk => hk.2))) | (show (Addr.add _ _).block ≠ _; rw [add_block]; exact Kd.own_blk (Kd.R_away HO_5.out (fun _ hk => hk.2))) | (dsimp only; exact Kd.own_blk (Kd.R_away HO_5.out (fun _ hk => hk.2)))) _).trans (((cell_far (p := ⟨gb225, _, none⟩) (by first | exact Kd.own_blk (Kd.R_away HO_5.out (fun _ hk => hk.2)) | (rw [add_block]; exact Kd.own_blk (Kd.R_away HO_5.out (fun _ hk => hk.2))) | (show (Addr.add _ _).block ≠ _; rw [add_block]; exact Kd.own_blk (Kd.R_away HO_5.out (fun _ hk => hk.2))) | (dsimp only; exact Kd.own_blk (Kd.R_away HO_5.out (fun _ hk => hk.2)))) _).trans (hHeld.2.2.2.2.2.1)))))))), ((cell_far (p := ⟨gb225, _, none⟩) (by first | exact Kd.own_blk (Kd.R_away HO_5.out (fun _ hk => hk.2)) | (rw [add_block]; exact Kd.own_blk (Kd.R_away HO_5.out (fun _ hk => hk.2))) | (show (Addr.add _ _).block ≠ _; rw [add_block]; exact Kd.own_blk (Kd.R_away HO_5.out (fun _ hk => hk.2))) | (dsimp only; exact Kd.own_blk (Kd.R_away HO_5.out (fun _ hk => hk.2)))) _).trans (((cell_far (p := ⟨gb225, _, none⟩) (by first | exact Kd.own_blk (Kd.R_away HO_5.out (fun _ hk => hk.2)) | (rw [add_block]; exact Kd.own_blk (Kd.R_away HO_5.out (fun _ hk => hk.2))) | (show (Addr.add _ _).block ≠ _; rw [add_block]; exact Kd.own_blk (Kd.R_away HO_5.out (fun _ hk => hk.2))) | (dsimp only; exact Kd.own_blk (Kd.R_away HO_5.out (fun _ hk => hk.2)))) _).trans (((cell_far (p := ⟨gb225, _, none⟩) (by first | exact Kd.own_blk (Kd.R_away HO_5.out (fun _ hk => hk.2)) | (rw [add_block]; exact Kd.own_blk (Kd.R_away HO_5.out (fun _ hk => hk.2))) | (show (Addr.add _ _).block ≠ _; rw [add_block]; exact Kd.own_blk (Kd.R_away HO_5.out (fun _ hk => hk.2))) | (dsimp only; exact Kd.own_blk (Kd.R_away HO_5.out (fun _ hk => hk.2)))) _).trans (((cell_far (p := ⟨gb225, _, none⟩) (by first | exact Kd.own_blk (Kd.R_away HO_5.out (fun _ hk => hk.2)) | (rw [add_block]; exact Kd.own_blk (Kd.R_away HO_5.out (fun _ hk => hk.2))) | (show (Addr.add _ _).block ≠ _; rw [add_block]; exact Kd.own_blk (Kd.R_away HO_5.out (fun _ hk => hk.2))) | (dsimp only; exact Kd.own_blk (Kd.R_away HO_5.out (fun _ hk => hk.2)))) _).trans (hHeld.2.2.2.2.2.2.1)))))))), ((cell_far (p := ⟨gb225, _, none⟩) (by first | exact Kd.own_blk (Kd.R_away HO_5.out (fun _ hk => hk.2)) | (rw [add_block]; exact Kd.own_blk (Kd.R_away HO_5.out (fun _ hk => hk.2))) | (show (Addr.add _ _).block ≠ _; rw [add_block]; exact Kd.own_blk (Kd.R_away HO_5.out (fun _ hk => hk.2))) | (dsimp only; exact Kd.own_blk (Kd.R_away HO_5.out (fun _ hk => hk.2)))) _).trans (((cell_far (p := ⟨gb225, _, none⟩) (by first | exact Kd.own_blk (Kd.R_away HO_5.out (fun _ hk => hk.2)) | (rw [add_block]; exact Kd.own_blk (Kd.R_away HO_5.out (fun _ hk => hk.2))) | (show (Addr.add _ _).block ≠ _; rw [add_block]; exact Kd.own_blk (Kd.R_away HO_5.out (fun _ hk => hk.2))) | (dsimp only; exact Kd.own_blk (Kd.R_away HO_5.out (fun _ hk => hk.2)))) _).trans (((cell_far (p := ⟨gb225, _, none⟩) (by first | exact Kd.own_blk (Kd.R_away HO_5.out (fun _ hk => hk.2)) | (rw [add_block]; exact Kd.own_blk (Kd.R_away HO_5.out (fun _ hk => hk.2))) | (show (Addr.add _ _).block ≠ _; rw [add_block]; exact Kd.own_blk (Kd.R_away HO_5.out (fun _ hk => hk.2))) | (dsimp only; exact Kd.own_blk (Kd.R_away HO_5.out (fun _ hk => hk.2)))) _).trans (((cell_far (p := ⟨gb225, _, none⟩) (by first | exact Kd.own_blk (Kd.R_away HO_5.out (fun _ hk => hk.2)) | (rw [add_block]; exact Kd.own_blk (Kd.R_away HO_5.out (fun _ hk => hk.2))) | (show (Addr.add _ _).block ≠ _; rw [add_block]; exact Kd.own_blk (Kd.R_away HO_5.out (fun _ hk => hk.2))) | (dsimp only; exact Kd.own_blk (Kd.R_away HO_5.out (fun _ hk => hk.2)))) _).trans (hHeld.2.2.2.2.2.2.2))))))))⟩ (fun hHeld => ?_)
               clear hK K
               refine pure_ (i := 11) (N := some 10) (v := ?_) (a' := ?_) #[true, true, true, true, true, true, true, true, true, true, true, true] rfl rfl (any_of HT_.out (by kernel_rfl)) (fun _ _ _ h => h) (Or.inl ⟨by rfl, ?_⟩) ?_ ?_
               rotate_left
               ·intro w'
                go_simp
                with_reducible rfl
               rotate_left
               ·simp only [Act.put, lstS, lstZ, lstC, i64_w, i32_w]
                rfl
               refine done_ (done_of HT_.out (by kernel_rfl)) ?_
               have hnb33 := NB225_218.out
               have hnc33 := NB218_225.out
               have hcz34_0 : w28.cell? ⟨gb225, 0, none⟩ = some (.int .i64 0) := (blk_cell BK225.out 0).trans rfl
               have hcz34_1 : w28.cell? ⟨gb225, 1, none⟩ = some (.int .i64 0) := (blk_cell BK225.out 1).trans rfl
               have hcz34_2 : w28.cell? ⟨gb225, 2, none⟩ = some (.int .i64 0) := (blk_cell BK225.out 2).trans rfl
               have hcz34_3 : w28.cell? ⟨gb225, 3, none⟩ = some (.int .i64 0) := (blk_cell BK225.out 3).trans rfl
               have hfz34_0 := blk_frozen BK225.out 0
               have hfz34_1 := blk_frozen BK225.out 1
               have hfz34_2 := blk_frozen BK225.out 2
               have hfz34_3 := blk_frozen BK225.out 3
               try go_wp2_with (first | ((with_reducible refine gate_callee (f := 51) rfl ?_); refine goesL_ (some 43) rfl rfl Try.func51 (by kernel_rfl) rfl #[.slice (some ad219) x5_2.length co25, .agg #[.int .i64 t220, .int .i64 t221, .int .i64 t222, .int .i64 t223]] rfl (by (try simp only [List.map_toArray, List.map_cons, List.map_nil]); first | done | rfl | (simp only [List.length_drop, List.length_take]; rfl)) ?_; (with_reducible refine (impl_Matrix_51.calls k2 _ _ x5_2 t220 t221 t222 t223 true _ ?side1 ?side2 A18.out).mono ?_); (case side1 => refine (Kd.R_reads' (e := 26) (base := w.heap.size) (ok := fun k_ => (k_ ≠ gb218 ∧ k_ ≠ gb225)) (n := x5_2.length) (c := co25) ?_).2.2; exact (by (with_reducible repeat (first | apply Kd.R_alloc | apply Kd.R_drewN | apply Kd.R_drew)); exact (Kd.R_mono (Kd.R_far (p := ⟨gb225, 3, none⟩) (Kd.R_far (p := ⟨gb225, 2, none⟩) (Kd.R_far (p := ⟨gb225, 1, none⟩) (Kd.R_far (p := ⟨gb225, 0, none⟩) (Kd.R_mono HO_5.out (fun k_ hk => (⟨hk, hk.2⟩ : _ ∧ k_ ≠ gb225))) (fun _ hk => hk.2) (.int .i64 t220)) (fun _ hk => hk.2) (.int .i64 t221)) (fun _ hk => hk.2) (.int .i64 t222)) (fun _ hk => hk.2) (.int .i64 t223)) (fun _ h_ => h_.1)))); (case side2 => exact (Kd.R_reads' HO_5.out).2.1); rintro e w35 ⟨rfl, hb⟩; refine ⟨_, rfl, ?_⟩; have n0_ := Aside0.mk (Kd.R_below (by (with_reducible repeat (first | apply Kd.R_alloc | apply Kd.R_drewN | apply Kd.R_drew)); exact (Kd.R_mono (Kd.R_far (p := ⟨gb225, 3, none⟩) (Kd.R_far (p := ⟨gb225, 2, none⟩) (Kd.R_far (p := ⟨gb225, 1, none⟩) (Kd.R_far (p := ⟨gb225, 0, none⟩) (Kd.R_mono HO_5.out (fun k_ hk => (⟨hk, hk.2⟩ : _ ∧ k_ ≠ gb225))) (fun _ hk => hk.2) (.int .i64 t220)) (fun _ hk => hk.2) (.int .i64 t221)) (fun _ hk => hk.2) (.int .i64 t222)) (fun _ hk => hk.2) (.int .i64 t223)) (fun _ h_ => h_.1))) hb); have n1_ := Aside0.mk (blk_below (g := gb218) (o := .cells #[.int .i64 ((rd_T26 l0 x26_2).f0.f0), .int .i64 ((rd_T26 l0 x26_2).f0.f1), .int .i64 ((rd_T26 l0 x26_2).f1.f0), .int .i64 ((rd_T26 l0 x26_2).f1.f1)] 26 (0, 0)) (by (with_reducible repeat first | apply blk_drewN | apply blk_drew | apply blk_alloc); refine blk_far ?_ NB218_225.out _; (with_reducible repeat first | apply blk_drewN | apply blk_drew | apply blk_alloc); refine blk_far ?_ NB218_225.out _; (with_reducible repeat first | apply blk_drewN | apply blk_drew | apply blk_alloc); refine blk_far ?_ NB218_225.out _; (with_reducible repeat first | apply blk_drewN | apply blk_drew | apply blk_alloc); refine blk_far ?_ NB218_225.out _; (with_reducible repeat first | apply blk_drewN | apply blk_drew | apply blk_alloc); exact BK218.out) hb); have n2_ := Aside0.mk (blk_below (g := gb225) (o := .cells #[.int .i64 t220, .int .i64 t221, .int .i64 t222, .int .i64 t223] 26 (0, 0)) (by (with_reducible repeat first | apply blk_drewN | apply blk_drew | apply blk_alloc); refine blk_put (cs := #[.int .i64 t220, .int .i64 t221, .int .i64 t222, .int .i64 0]) ?_ 3 _ rfl; (with_reducible repeat first | apply blk_drewN | apply blk_drew | apply blk_alloc); refine blk_put (cs := #[.int .i64 t220, .int .i64 t221, .int .i64 0, .int .i64 0]) ?_ 2 _ rfl; (with_reducible repeat first | apply blk_drewN | apply blk_drew | apply blk_alloc); refine blk_put (cs := #[.int .i64 t220, .int .i64 0, .int .i64 0, .int .i64 0]) ?_ 1 _ rfl; (with_reducible repeat first | apply blk_drewN | apply blk_drew | apply blk_alloc); refine blk_put (cs := #[.int .i64 0, .int .i64 0, .int .i64 0, .int .i64 0]) ?_ 0 _ rfl; (with_reducible repeat first | apply blk_drewN | apply blk_drew | apply blk_alloc); exact BK225.out) hb); have n3_ := Aside0.mk (below_step (by repeat (first | (with_reducible first | exact HB.out | apply below_alloc | apply pw_below_drewN | apply below_drew1 | refine below_set ?_ GE218.out | refine below_set ?_ GE225.out) | exact HB.out)) hb); clear HO_5; clear BK218; clear BK225; clear HB; have HO_5 := n0_; have BK218 := n1_; have BK225 := n2_; have HB := n3_; clear n0_ n1_ n2_ n3_; (try clear hb); (try clear hb2); (try clear hk); (try clear hi)))
               go_ret2
               exact ⟨_, by first | rfl | (simp [errW_none, errW_some] <;> rfl) | (simp [*, errW_none, errW_some] <;> rfl), by first | exact Kd.R_nil _ _ _ _ _ | exact Kd.N_nil _ _ _ _ _ | exact Kd.V_nil _ _ _ _ _ | exact Kd.Q_nil _ _ _ _ _ | exact Kd.S_nil _ _ _ _ _, by repeat (first | (with_reducible first | exact HB.out | apply below_alloc | apply pw_below_drewN | apply below_drew1 | refine below_set ?_ GE218.out | refine below_set ?_ GE225.out) | exact HB.out)⟩
              ·rw [if_neg c20] at H
               have c20b0 : decide (48 < (x5_2.length : Int)) = false := decide_eq_false c20
               have c20b1 : decide (48 < x5_2.length) = false := decide_eq_false (by omega)
               clear c20
               have H' := Aside0.mk H
               clear H
               have p217 : 0 ≤ (x26_2 : Int) := of_decide_eq_true (by first | (with_reducible assumption) | assumption)
               have q217 : x26_2 < (l0.length : Int) := of_decide_eq_true (by first | (with_reducible assumption) | assumption)
               obtain ⟨ad217, e217, hx217_0, hx217_1, hx217_2, hx217_3⟩ := at_T26 HR0.out x26_2 p217 q217
               cases e217
               replace hx217_0 := clTr HB.out hx217_0
               replace hx217_1 := clTr HB.out hx217_1
               replace hx217_2 := clTr HB.out hx217_2
               replace hx217_3 := clTr HB.out hx217_3
               replace p217 := eq_true p217
               replace q217 := eq_true q217
               try go_wp2_with (first | ((with_reducible refine gate_dst (N := 8) rfl ?_); refine box_event ?hg (N := 8) ?hd (cs := #[.int .i64 0, .int .i64 0, .int .i64 0, .int .i64 0]) (t := 26) ?hr ?_; (case hd => rfl); (case hg => rfl); (case hr => first | (go_simp; done) | (go_simp; rfl)); intro gb218 hg w36 hbox hb; have n0_ := Aside0.mk (Kd.R_below (Kd.R_elderB (by (with_reducible repeat (first | apply Kd.R_alloc | apply Kd.R_drewN | apply Kd.R_drew)); exact HO_5.out) gb218 (Nat.le_of_eq hg.symm)) hb); have n1_ := Aside0.mk (below_step (by repeat (first | (with_reducible first | exact HB.out | apply below_alloc | apply pw_below_drewN | apply below_drew1) | exact HB.out)) hb); have n2_ := Aside0.mk (hbox); have n3_ := Aside0.mk ((by rw [hg]; exact (below_size (by repeat (first | (with_reducible first | exact HB.out | apply below_alloc | apply pw_below_drewN | apply below_drew1) | exact HB.out))) : w.heap.size ≤ gb218)); have n4_ := Aside0.mk ((by rw [hg]; exact (below_size (by repeat (first | (with_reducible first | exact HB.out | apply below_alloc | apply pw_below_drewN | apply below_drew1) | exact HB.out))) : w.heap.size ≤ gb218)); clear HO_5; clear HB; have HO_5 := n0_; have HB := n1_; have BK218 := n2_; have GW218 := n3_; have GE218 := n4_; clear n0_ n1_ n2_ n3_ n4_; clear hb hbox hg; have hcz37_0 : w36.cell? ⟨gb218, 0, none⟩ = some (.int .i64 0) := (blk_cell BK218.out 0).trans rfl; have hcz37_1 : w36.cell? ⟨gb218, 1, none⟩ = some (.int .i64 0) := (blk_cell BK218.out 1).trans rfl; have hcz37_2 : w36.cell? ⟨gb218, 2, none⟩ = some (.int .i64 0) := (blk_cell BK218.out 2).trans rfl; have hcz37_3 : w36.cell? ⟨gb218, 3, none⟩ = some (.int .i64 0) := (blk_cell BK218.out 3).trans rfl; have hfz37_0 := blk_frozen BK218.out 0; have hfz37_1 := blk_frozen BK218.out 1; have hfz37_2 := blk_frozen BK218.out 2; have hfz37_3 := blk_frozen BK218.out 3))
               have n0_ : Aside0 (Kd.R k26 26 ((((w36.setCell ⟨gb218, 0, none⟩ (.int .i64 ((rd_T26 l0 x26_2).f0.f0))).setCell ⟨gb218, 1, none⟩ (.int .i64 ((rd_T26 l0 x26_2).f0.f1))).setCell ⟨gb218, 2, none⟩ (.int .i64 ((rd_T26 l0 x26_2).f1.f0))).setCell ⟨gb218, 3, none⟩ (.int .i64 ((rd_T26 l0 x26_2).f1.f1))) w.heap.size (fun k_ => k_ ≠ gb218) u5 x5_2) := ⟨by (with_reducible repeat (first | apply Kd.R_alloc | apply Kd.R_drewN | apply Kd.R_drew)); exact Kd.R_mono (Kd.R_far (p := ⟨gb218, 3, none⟩) (Kd.R_far (p := ⟨gb218, 2, none⟩) (Kd.R_far (p := ⟨gb218, 1, none⟩) (Kd.R_far (p := ⟨gb218, 0, none⟩) (Kd.R_mono HO_5.out (fun k_ hk => (⟨hk, hk.2⟩ : _ ∧ k_ ≠ gb218))) (fun _ hk => hk.2) (.int .i64 ((rd_T26 l0 x26_2).f0.f0))) (fun _ hk => hk.2) (.int .i64 ((rd_T26 l0 x26_2).f0.f1))) (fun _ hk => hk.2) (.int .i64 ((rd_T26 l0 x26_2).f1.f0))) (fun _ hk => hk.2) (.int .i64 ((rd_T26 l0 x26_2).f1.f1))) (fun _ hk => hk.1.2)⟩
               have n1_ : Aside0 (((((w36.setCell ⟨gb218, 0, none⟩ (.int .i64 ((rd_T26 l0 x26_2).f0.f0))).setCell ⟨gb218, 1, none⟩ (.int .i64 ((rd_T26 l0 x26_2).f0.f1))).setCell ⟨gb218, 2, none⟩ (.int .i64 ((rd_T26 l0 x26_2).f1.f0))).setCell ⟨gb218, 3, none⟩ (.int .i64 ((rd_T26 l0 x26_2).f1.f1))).heap[gb218]? = some (.cells #[.int .i64 ((rd_T26 l0 x26_2).f0.f0), .int .i64 ((rd_T26 l0 x26_2).f0.f1), .int .i64 ((rd_T26 l0 x26_2).f1.f0), .int .i64 ((rd_T26 l0 x26_2).f1.f1)] 26 (0, 0))) := ⟨by (with_reducible repeat first | apply blk_drewN | apply blk_drew | apply blk_alloc); refine blk_put (cs := #[.int .i64 ((rd_T26 l0 x26_2).f0.f0), .int .i64 ((rd_T26 l0 x26_2).f0.f1), .int .i64 ((rd_T26 l0 x26_2).f1.f0), .int .i64 0]) ?_ 3 _ rfl; (with_reducible repeat first | apply blk_drewN | apply blk_drew | apply blk_alloc); refine blk_put (cs := #[.int .i64 ((rd_T26 l0 x26_2).f0.f0), .int .i64 ((rd_T26 l0 x26_2).f0.f1), .int .i64 0, .int .i64 0]) ?_ 2 _ rfl; (with_reducible repeat first | apply blk_drewN | apply blk_drew | apply blk_alloc); refine blk_put (cs := #[.int .i64 ((rd_T26 l0 x26_2).f0.f0), .int .i64 0, .int .i64 0, .int .i64 0]) ?_ 1 _ rfl; (with_reducible repeat first | apply blk_drewN | apply blk_drew | apply blk_alloc); refine blk_put (cs := #[.int .i64 0, .int .i64 0, .int .i64 0, .int .i64 0]) ?_ 0 _ rfl; (with_reducible repeat first | apply blk_drewN | apply blk_drew | apply blk_alloc); exact BK218.out⟩
               have n2_ : Aside0 (Below w.heap.size w ((((w36.setCell ⟨gb218, 0, none⟩ (.int .i64 ((rd_T26 l0 x26_2).f0.f0))).setCell ⟨gb218, 1, none⟩ (.int .i64 ((rd_T26 l0 x26_2).f0.f1))).setCell ⟨gb218, 2, none⟩ (.int .i64 ((rd_T26 l0 x26_2).f1.f0))).setCell ⟨gb218, 3, none⟩ (.int .i64 ((rd_T26 l0 x26_2).f1.f1)))) := ⟨by repeat (first | (with_reducible first | exact HB.out | apply below_alloc | apply pw_below_drewN | apply below_drew1 | refine below_set ?_ GE218.out) | exact HB.out)⟩
               (try clear HO_5)
               (try clear BK218)
               (try clear HB)
               generalize ((((w36.setCell ⟨gb218, 0, none⟩ (.int .i64 ((rd_T26 l0 x26_2).f0.f0))).setCell ⟨gb218, 1, none⟩ (.int .i64 ((rd_T26 l0 x26_2).f0.f1))).setCell ⟨gb218, 2, none⟩ (.int .i64 ((rd_T26 l0 x26_2).f1.f0))).setCell ⟨gb218, 3, none⟩ (.int .i64 ((rd_T26 l0 x26_2).f1.f1))) = w38 at n0_ n1_ n2_ ⊢
               have HO_5 := n0_
               have BK218 := n1_
               have HB := n2_
               clear n0_ n1_ n2_
               have n0_ := Aside0.mk (Kd.R_drew HO_5.out)
               have n1_ := Aside0.mk (blk_drew BK218.out)
               have n2_ := Aside0.mk (below_drew1 HB.out)
               clear HO_5
               clear BK218
               clear HB
               have HO_5 := n0_
               have BK218 := n1_
               have HB := n2_
               clear n0_ n1_ n2_
               obtain ⟨Ao40, co40, eo40⟩ := Kd.R_slice HO_5.out
               (first | subst eo40 | (injection eo40 with f1_ f2_ f3_; have f4_ := f1_.symm; have f5_ := f3_.symm; clear f1_ f2_ f3_; subst f4_; subst f5_))
               have p219 : 0 ≤ (x6_1 : Int) := of_decide_eq_true (by first | (with_reducible assumption) | assumption)
               have q219 : x6_1 < (x5_2.length : Int) := of_decide_eq_true (by first | (with_reducible assumption) | assumption)
               obtain ⟨ad219, e219, hx219_0, hx219_1, hx219_2, hx219_3⟩ := at_T26 (Kd.R_reads' HO_5.out).2.2 x6_1 p219 q219
               cases e219
               replace p219 := eq_true p219
               replace q219 := eq_true q219
               refine start_ (n := 12) (S := fun w' => w'.cell? ⟨gb218, 0, none⟩ = some (.int .i64 ((rd_T26 l0 x26_2).f0.f0)) ∧ w'.cell? ⟨gb218, 1, none⟩ = some (.int .i64 ((rd_T26 l0 x26_2).f0.f1)) ∧ w'.cell? ⟨gb218, 2, none⟩ = some (.int .i64 ((rd_T26 l0 x26_2).f1.f0)) ∧ w'.cell? ⟨gb218, 3, none⟩ = some (.int .i64 ((rd_T26 l0 x26_2).f1.f1)) ∧ w'.cell? (ad219.add ((x6_1).toNat * 4)) = some (.int .i64 ((rd_T26 x5_2 x6_1).f0.f0)) ∧ w'.cell? ⟨(ad219.add ((x6_1).toNat * 4)).block, (ad219.add ((x6_1).toNat * 4)).off + 1, none⟩ = some (.int .i64 ((rd_T26 x5_2 x6_1).f0.f1)) ∧ w'.cell? ⟨(ad219.add ((x6_1).toNat * 4)).block, (ad219.add ((x6_1).toNat * 4)).off + 2, none⟩ = some (.int .i64 ((rd_T26 x5_2 x6_1).f1.f0)) ∧ w'.cell? ⟨(ad219.add ((x6_1).toNat * 4)).block, (ad219.add ((x6_1).toNat * 4)).off + 3, none⟩ = some (.int .i64 ((rd_T26 x5_2 x6_1).f1.f1))) (ds := []) #[false, false, false, false, false, false, false, false, false, false, false, false] (by kernel_rfl) rfl rfl ⟨(blk_cell BK218.out 0).trans rfl, (blk_cell BK218.out 1).trans rfl, (blk_cell BK218.out 2).trans rfl, (blk_cell BK218.out 3).trans rfl, hx219_0, hx219_1, hx219_2, hx219_3⟩ (fun hHeld => ?_); refine with_tabW impl_GroupOf.tab11 impl_GroupOf.bits11 (fun HT_ HW_ => ?_)
               generalize w38.drew = w39 at HO_5 BK218 HB hx219_0 hx219_1 hx219_2 hx219_3 hHeld ⊢
               refine pure_ (i := 0) (N := some 31) (v := ?_) (a' := ?_) #[true, false, false, false, false, false, false, false, false, false, false, false] rfl rfl (any_of HT_.out (by kernel_rfl)) (fun _ _ _ h => h) (Or.inl ⟨by rfl, ?_⟩) ?_ ?_
               rotate_left
               ·intro w'
                go_simp
                with_reducible rfl
               rotate_left
               ·simp only [Act.put, lstS, lstZ, lstC, i64_w, i32_w]
                rfl
               refine pure_ (i := 1) (N := some 32) (v := ?_) (a' := ?_) #[true, true, false, false, false, false, false, false, false, false, false, false] rfl rfl (any_of HT_.out (by kernel_rfl)) (fun _ _ _ h => h) (Or.inl ⟨by rfl, ?_⟩) ?_ ?_
               rotate_left
               ·intro w'
                go_simp
                with_reducible rfl
               rotate_left
               ·simp only [Act.put, lstS, lstZ, lstC, i64_w, i32_w]
                rfl
               refine pure_ (i := 2) (N := some 33) (v := ?_) (a' := ?_) #[true, true, true, false, false, false, false, false, false, false, false, false] rfl rfl (any_of HT_.out (by kernel_rfl)) (fun _ _ _ h => h) (Or.inl ⟨by rfl, ?_⟩) ?_ ?_
               rotate_left
               ·intro w'
                go_simp
                with_reducible rfl
               rotate_left
               ·simp only [Act.put, lstS, lstZ, lstC, i64_w, i32_w]
                rfl
               refine take_ (i := 3) (N := some 34) (v := ?_) (a' := ?_) #[true, true, true, true, false, false, false, false, false, false, false, false] rfl rfl (take_ofW HT_.out HW_.out (by kernel_rfl)) (fun _ _ _ h => h) (Or.inl ⟨by rfl, ?_⟩) hHeld ?_ ?_
               rotate_left
               ·rintro w' ⟨s0, s1, s2, s3, s4, s5, s6, s7⟩
                go_simp
                with_reducible rfl
               rotate_left
               ·simp only [Act.put, lstS, lstZ, lstC, i64_w, i32_w]
                rfl
               refine take_ (i := 4) (N := some 35) (v := ?_) (a' := ?_) #[true, true, true, true, true, false, false, false, false, false, false, false] rfl rfl (take_ofW HT_.out HW_.out (by kernel_rfl)) (fun _ _ _ h => h) (Or.inl ⟨by rfl, ?_⟩) hHeld ?_ ?_
               rotate_left
               ·rintro w' ⟨s0, s1, s2, s3, s4, s5, s6, s7⟩
                go_simp
                with_reducible rfl
               rotate_left
               ·simp only [Act.put, lstS, lstZ, lstC, i64_w, i32_w]
                rfl
               refine join_ (σ := Nat) 2 #[true, true, true, true, true, true, true, true, true, true, false, false] (fun s_ => [(36, .tuple #[.agg #[.int .i64 t220, .int .i64 t221, .int .i64 t222, .int .i64 t223], .bool true]), (9, .pointer (some ⟨s_, 0, none⟩)), (30, .tuple #[.agg #[.int .i64 t220, .int .i64 t221, .int .i64 t222, .int .i64 t223], .bool true]), (37, .agg #[.int .i64 t220, .int .i64 t221, .int .i64 t222, .int .i64 t223]), (38, .bool true)]) (fun s_ w' => (w'.cell? ⟨gb218, 0, none⟩ = some (.int .i64 ((rd_T26 l0 x26_2).f0.f0)) ∧ w'.cell? ⟨gb218, 1, none⟩ = some (.int .i64 ((rd_T26 l0 x26_2).f0.f1)) ∧ w'.cell? ⟨gb218, 2, none⟩ = some (.int .i64 ((rd_T26 l0 x26_2).f1.f0)) ∧ w'.cell? ⟨gb218, 3, none⟩ = some (.int .i64 ((rd_T26 l0 x26_2).f1.f1)) ∧ w'.cell? (ad219.add ((x6_1).toNat * 4)) = some (.int .i64 ((rd_T26 x5_2 x6_1).f0.f0)) ∧ w'.cell? ⟨(ad219.add ((x6_1).toNat * 4)).block, (ad219.add ((x6_1).toNat * 4)).off + 1, none⟩ = some (.int .i64 ((rd_T26 x5_2 x6_1).f0.f1)) ∧ w'.cell? ⟨(ad219.add ((x6_1).toNat * 4)).block, (ad219.add ((x6_1).toNat * 4)).off + 2, none⟩ = some (.int .i64 ((rd_T26 x5_2 x6_1).f1.f0)) ∧ w'.cell? ⟨(ad219.add ((x6_1).toNat * 4)).block, (ad219.add ((x6_1).toNat * 4)).off + 3, none⟩ = some (.int .i64 ((rd_T26 x5_2 x6_1).f1.f1))) ∧ (Kd.R k26 26 w' w.heap.size (fun k_ => k_ ≠ gb218 ∧ k_ ≠ s_) (.slice (some ad219) x5_2.length co40) x5_2) ∧ (w'.heap[gb218]? = some (.cells #[.int .i64 ((rd_T26 l0 x26_2).f0.f0), .int .i64 ((rd_T26 l0 x26_2).f0.f1), .int .i64 ((rd_T26 l0 x26_2).f1.f0), .int .i64 ((rd_T26 l0 x26_2).f1.f1)] 26 (0, 0))) ∧ (w'.heap[s_]? = some (.cells #[.int .i64 0, .int .i64 0, .int .i64 0, .int .i64 0] 26 (0, 0))) ∧ (w.heap.size ≤ s_) ∧ (w.heap.size ≤ s_) ∧ (gb218 ≠ s_) ∧ (s_ ≠ gb218) ∧ (Below w.heap.size w w')) ?_ ?_
               rotate_left
               ·intro hCont
                refine two_ (i := 5) (j := 9) (Ni := some 36) (Nj := some 9) #[true, true, true, true, true, true, false, false, false, false, false, false] #[true, true, true, true, true, false, false, false, false, true, false, false] rfl rfl rfl rfl (two_of HT_.out (by kernel_rfl)) (by decide) (by decide) (fun K hK => ?_) (fun K hK => ?_)
                ·skip
                 refine goes_ Try.func44 (by kernel_rfl) rfl #[.agg #[.int .i64 ((rd_T26 x5_2 x6_1).f0.f0), .int .i64 ((rd_T26 x5_2 x6_1).f0.f1), .int .i64 ((rd_T26 x5_2 x6_1).f1.f0), .int .i64 ((rd_T26 x5_2 x6_1).f1.f1)], .agg #[.int .i64 ((rd_T26 l0 x26_2).f0.f0), .int .i64 ((rd_T26 l0 x26_2).f0.f1), .int .i64 ((rd_T26 l0 x26_2).f1.f0), .int .i64 ((rd_T26 l0 x26_2).f1.f1)]] (by rfl) rfl rfl (by (try simp only [List.map_toArray, List.map_cons, List.map_nil]); first | done | rfl | (simp only [List.length_drop, List.length_take]; rfl)) ?_
                 with_reducible refine (impl_product.calls k2 ((rd_T26 x5_2 x6_1).f0.f0) ((rd_T26 x5_2 x6_1).f0.f1) ((rd_T26 x5_2 x6_1).f1.f0) ((rd_T26 x5_2 x6_1).f1.f1) ((rd_T26 l0 x26_2).f0.f0) ((rd_T26 l0 x26_2).f0.f1) ((rd_T26 l0 x26_2).f1.f0) ((rd_T26 l0 x26_2).f1.f1) t220 t221 t222 t223 true _ A16.out).mono ?_
                 rintro e w41 ⟨rfl, hb⟩
                 have HS4_ := (hb.cell (World.block_lt_of_cell? _ _ (hHeld.2.2.2.2.1))).trans (hHeld.2.2.2.2.1)
                 have HS5_ := (hb.cell (World.block_lt_of_cell? _ _ (hHeld.2.2.2.2.2.1))).trans (hHeld.2.2.2.2.2.1)
                 have HS6_ := (hb.cell (World.block_lt_of_cell? _ _ (hHeld.2.2.2.2.2.2.1))).trans (hHeld.2.2.2.2.2.2.1)
                 have HS7_ := (hb.cell (World.block_lt_of_cell? _ _ (hHeld.2.2.2.2.2.2.2))).trans (hHeld.2.2.2.2.2.2.2)
                 refine ⟨_, rfl, ?_⟩
                 have n0_ := Aside0.mk (Kd.R_below (by (with_reducible repeat (first | apply Kd.R_alloc | apply Kd.R_drewN | apply Kd.R_drew)); exact HO_5.out) hb)
                 have n1_ := Aside0.mk (blk_below (g := gb218) (o := .cells #[.int .i64 ((rd_T26 l0 x26_2).f0.f0), .int .i64 ((rd_T26 l0 x26_2).f0.f1), .int .i64 ((rd_T26 l0 x26_2).f1.f0), .int .i64 ((rd_T26 l0 x26_2).f1.f1)] 26 (0, 0)) (by (with_reducible repeat first | apply blk_drewN | apply blk_drew | apply blk_alloc); exact BK218.out) hb)
                 have n2_ := Aside0.mk (below_step (by repeat (first | (with_reducible first | exact HB.out | apply below_alloc | apply pw_below_drewN | apply below_drew1 | refine below_set ?_ GE218.out) | exact HB.out)) hb)
                 clear HO_5
                 clear BK218
                 clear HB
                 have HO_5 := n0_
                 have BK218 := n1_
                 have HB := n2_
                 clear n0_ n1_ n2_
                 (try clear hb)
                 (try clear hb2)
                 (try clear hk)
                 (try clear hi)
                 refine hK.out _ _ ⟨(blk_cell BK218.out 0).trans rfl, (blk_cell BK218.out 1).trans rfl, (blk_cell BK218.out 2).trans rfl, (blk_cell BK218.out 3).trans rfl, HS4_, HS5_, HS6_, HS7_⟩ (fun hHeld => ?_)
                 clear hK K
                 refine norm_ (a' := ?_) ?_ ?_
                 rotate_left
                 ·show Act.put _ (some 36) _ = _
                  simp only [Act.put, lstS, lstZ, lstC, i64_w, i32_w]
                  rfl
                 refine pure_ (i := 6) (N := some 30) (v := ?_) (a' := ?_) #[true, true, true, true, true, true, true, false, false, false, false, false] rfl rfl (any_of HT_.out (by kernel_rfl)) (fun _ _ _ h => h) (Or.inl ⟨by rfl, ?_⟩) ?_ ?_
                 rotate_left
                 ·intro w'
                  go_simp
                  with_reducible rfl
                 rotate_left
                 ·simp only [Act.put, lstS, lstZ, lstC, i64_w, i32_w]
                  rfl
                 refine pure_ (i := 7) (N := some 37) (v := ?_) (a' := ?_) #[true, true, true, true, true, true, true, true, false, false, false, false] rfl rfl (any_of HT_.out (by kernel_rfl)) (fun _ _ _ h => h) (Or.inl ⟨by rfl, ?_⟩) ?_ ?_
                 rotate_left
                 ·intro w'
                  go_simp
                  with_reducible rfl
                 rotate_left
                 ·simp only [Act.put, lstS, lstZ, lstC, i64_w, i32_w]
                  rfl
                 refine pure_ (i := 8) (N := some 38) (v := ?_) (a' := ?_) #[true, true, true, true, true, true, true, true, true, false, false, false] rfl rfl (any_of HT_.out (by kernel_rfl)) (fun _ _ _ h => h) (Or.inl ⟨by rfl, ?_⟩) ?_ ?_
                 rotate_left
                 ·intro w'
                  go_simp
                  with_reducible rfl
                 rotate_left
                 ·simp only [Act.put, lstS, lstZ, lstC, i64_w, i32_w]
                  rfl
                 refine one_ (i := 9) (N := some 9) #[true, true, true, true, true, true, true, true, true, true, false, false] rfl rfl (one_of HT_.out (by kernel_rfl)) (by decide) (fun K hK => ?_)
                 refine box_step ?hg (N := 9) ?hd (cs := #[.int .i64 0, .int .i64 0, .int .i64 0, .int .i64 0]) (t := 26) ?hr ?_; (case hd => rfl); (case hg => rfl); (case hr => first | (go_simp; done) | (go_simp; rfl))
                 intro gb225 hg w42 hbox hb
                 have HS4_ := (hb.cell (World.block_lt_of_cell? _ _ (hHeld.2.2.2.2.1))).trans (hHeld.2.2.2.2.1)
                 have HS5_ := (hb.cell (World.block_lt_of_cell? _ _ (hHeld.2.2.2.2.2.1))).trans (hHeld.2.2.2.2.2.1)
                 have HS6_ := (hb.cell (World.block_lt_of_cell? _ _ (hHeld.2.2.2.2.2.2.1))).trans (hHeld.2.2.2.2.2.2.1)
                 have HS7_ := (hb.cell (World.block_lt_of_cell? _ _ (hHeld.2.2.2.2.2.2.2))).trans (hHeld.2.2.2.2.2.2.2)
                 have n0_ := Aside0.mk (Kd.R_below (Kd.R_elderB (by (with_reducible repeat (first | apply Kd.R_alloc | apply Kd.R_drewN | apply Kd.R_drew)); exact HO_5.out) gb225 (Nat.le_of_eq hg.symm)) hb)
                 have n1_ := Aside0.mk (blk_below (g := gb218) (o := .cells #[.int .i64 ((rd_T26 l0 x26_2).f0.f0), .int .i64 ((rd_T26 l0 x26_2).f0.f1), .int .i64 ((rd_T26 l0 x26_2).f1.f0), .int .i64 ((rd_T26 l0 x26_2).f1.f1)] 26 (0, 0)) (by (with_reducible repeat first | apply blk_drewN | apply blk_drew | apply blk_alloc); exact BK218.out) hb)
                 have n2_ := Aside0.mk (below_step (by repeat (first | (with_reducible first | exact HB.out | apply below_alloc | apply pw_below_drewN | apply below_drew1 | refine below_set ?_ GE218.out) | exact HB.out)) hb)
                 have n3_ := Aside0.mk (hbox)
                 have n4_ := Aside0.mk ((by rw [hg]; exact (below_size (by repeat (first | (with_reducible first | exact HB.out | apply below_alloc | apply pw_below_drewN | apply below_drew1 | refine below_set ?_ GE218.out) | exact HB.out))) : w.heap.size ≤ gb225))
                 have n5_ := Aside0.mk ((by rw [hg]; exact (below_size (by repeat (first | (with_reducible first | exact HB.out | apply below_alloc | apply pw_below_drewN | apply below_drew1 | refine below_set ?_ GE218.out) | exact HB.out))) : w.heap.size ≤ gb225))
                 have n6_ := Aside0.mk ((by rw [hg]; exact Nat.ne_of_lt (blk_lt (g := gb218) (o := .cells #[.int .i64 ((rd_T26 l0 x26_2).f0.f0), .int .i64 ((rd_T26 l0 x26_2).f0.f1), .int .i64 ((rd_T26 l0 x26_2).f1.f0), .int .i64 ((rd_T26 l0 x26_2).f1.f1)] 26 (0, 0)) (by (with_reducible repeat first | apply blk_drewN | apply blk_drew | apply blk_alloc); exact BK218.out)) : gb218 ≠ gb225))
                 have n7_ := Aside0.mk ((by rw [hg]; exact Nat.ne_of_gt (blk_lt (g := gb218) (o := .cells #[.int .i64 ((rd_T26 l0 x26_2).f0.f0), .int .i64 ((rd_T26 l0 x26_2).f0.f1), .int .i64 ((rd_T26 l0 x26_2).f1.f0), .int .i64 ((rd_T26 l0 x26_2).f1.f1)] 26 (0, 0)) (by (with_reducible repeat first | apply blk_drewN | apply blk_drew | apply blk_alloc); exact BK218.out)) : gb225 ≠ gb218))
                 clear HO_5
                 clear BK218
                 clear HB
                 have HO_5 := n0_
                 have BK218 := n1_
                 have HB := n2_
                 have BK225 := n3_
                 have GW225 := n4_
                 have GE225 := n5_
                 have NB218_225 := n6_
                 have NB225_218 := n7_
                 clear n0_ n1_ n2_ n3_ n4_ n5_ n6_ n7_
                 clear hb hbox hg
                 refine hK.out _ _ ⟨(blk_cell BK218.out 0).trans rfl, (blk_cell BK218.out 1).trans rfl, (blk_cell BK218.out 2).trans rfl, (blk_cell BK218.out 3).trans rfl, HS4_, HS5_, HS6_, HS7_⟩ (fun hHeld => ?_)
                 clear hK K
                 refine norm_ (a' := ?_) ?_ ?_
                 rotate_left
                 ·show Act.put _ (some 9) _ = _
                  simp only [Act.put, lstS, lstZ, lstC, i64_w, i32_w]
                  rfl
                 exact norm_ (by simp only [putAll, Act.put, lstS, lstZ, lstC]) (hCont (gb225) _ ⟨hHeld, (by (with_reducible repeat (first | apply Kd.R_alloc | apply Kd.R_drewN | apply Kd.R_drew)); exact HO_5.out), (by (with_reducible repeat first | apply blk_drewN | apply blk_drew | apply blk_alloc); exact BK218.out), (by (with_reducible repeat first | apply blk_drewN | apply blk_drew | apply blk_alloc); exact BK225.out), GW225.out, GE225.out, NB218_225.out, NB225_218.out, (by repeat (first | (with_reducible first | exact HB.out | apply below_alloc | apply pw_below_drewN | apply below_drew1 | refine below_set ?_ GE218.out | refine below_set ?_ GE225.out) | exact HB.out))⟩)
                ·skip
                 refine box_step ?hg (N := 9) ?hd (cs := #[.int .i64 0, .int .i64 0, .int .i64 0, .int .i64 0]) (t := 26) ?hr ?_; (case hd => rfl); (case hg => rfl); (case hr => first | (go_simp; done) | (go_simp; rfl))
                 intro gb225 hg w41 hbox hb
                 have HS4_ := (hb.cell (World.block_lt_of_cell? _ _ (hHeld.2.2.2.2.1))).trans (hHeld.2.2.2.2.1)
                 have HS5_ := (hb.cell (World.block_lt_of_cell? _ _ (hHeld.2.2.2.2.2.1))).trans (hHeld.2.2.2.2.2.1)
                 have HS6_ := (hb.cell (World.block_lt_of_cell? _ _ (hHeld.2.2.2.2.2.2.1))).trans (hHeld.2.2.2.2.2.2.1)
                 have HS7_ := (hb.cell (World.block_lt_of_cell? _ _ (hHeld.2.2.2.2.2.2.2))).trans (hHeld.2.2.2.2.2.2.2)
                 have n0_ := Aside0.mk (Kd.R_below (Kd.R_elderB (by (with_reducible repeat (first | apply Kd.R_alloc | apply Kd.R_drewN | apply Kd.R_drew)); exact HO_5.out) gb225 (Nat.le_of_eq hg.symm)) hb)
                 have n1_ := Aside0.mk (blk_below (g := gb218) (o := .cells #[.int .i64 ((rd_T26 l0 x26_2).f0.f0), .int .i64 ((rd_T26 l0 x26_2).f0.f1), .int .i64 ((rd_T26 l0 x26_2).f1.f0), .int .i64 ((rd_T26 l0 x26_2).f1.f1)] 26 (0, 0)) (by (with_reducible repeat first | apply blk_drewN | apply blk_drew | apply blk_alloc); exact BK218.out) hb)
                 have n2_ := Aside0.mk (below_step (by repeat (first | (with_reducible first | exact HB.out | apply below_alloc | apply pw_below_drewN | apply below_drew1 | refine below_set ?_ GE218.out) | exact HB.out)) hb)
                 have n3_ := Aside0.mk (hbox)
                 have n4_ := Aside0.mk ((by rw [hg]; exact (below_size (by repeat (first | (with_reducible first | exact HB.out | apply below_alloc | apply pw_below_drewN | apply below_drew1 | refine below_set ?_ GE218.out) | exact HB.out))) : w.heap.size ≤ gb225))
                 have n5_ := Aside0.mk ((by rw [hg]; exact (below_size (by repeat (first | (with_reducible first | exact HB.out | apply below_alloc | apply pw_below_drewN | apply below_drew1 | refine below_set ?_ GE218.out) | exact HB.out))) : w.heap.size ≤ gb225))
                 have n6_ := Aside0.mk ((by rw [hg]; exact Nat.ne_of_lt (blk_lt (g := gb218) (o := .cells #[.int .i64 ((rd_T26 l0 x26_2).f0.f0), .int .i64 ((rd_T26 l0 x26_2).f0.f1), .int .i64 ((rd_T26 l0 x26_2).f1.f0), .int .i64 ((rd_T26 l0 x26_2).f1.f1)] 26 (0, 0)) (by (with_reducible repeat first | apply blk_drewN | apply blk_drew | apply blk_alloc); exact BK218.out)) : gb218 ≠ gb225))
                 have n7_ := Aside0.mk ((by rw [hg]; exact Nat.ne_of_gt (blk_lt (g := gb218) (o := .cells #[.int .i64 ((rd_T26 l0 x26_2).f0.f0), .int .i64 ((rd_T26 l0 x26_2).f0.f1), .int .i64 ((rd_T26 l0 x26_2).f1.f0), .int .i64 ((rd_T26 l0 x26_2).f1.f1)] 26 (0, 0)) (by (with_reducible repeat first | apply blk_drewN | apply blk_drew | apply blk_alloc); exact BK218.out)) : gb225 ≠ gb218))
                 clear HO_5
                 clear BK218
                 clear HB
                 have HO_5 := n0_
                 have BK218 := n1_
                 have HB := n2_
                 have BK225 := n3_
                 have GW225 := n4_
                 have GE225 := n5_
                 have NB218_225 := n6_
                 have NB225_218 := n7_
                 clear n0_ n1_ n2_ n3_ n4_ n5_ n6_ n7_
                 clear hb hbox hg
                 refine hK.out _ _ ⟨(blk_cell BK218.out 0).trans rfl, (blk_cell BK218.out 1).trans rfl, (blk_cell BK218.out 2).trans rfl, (blk_cell BK218.out 3).trans rfl, HS4_, HS5_, HS6_, HS7_⟩ (fun hHeld => ?_)
                 clear hK K
                 refine norm_ (a' := ?_) ?_ ?_
                 rotate_left
                 ·show Act.put _ (some 9) _ = _
                  simp only [Act.put, lstS, lstZ, lstC, i64_w, i32_w]
                  rfl
                 refine one_ (i := 5) (N := some 36) #[true, true, true, true, true, true, false, false, false, true, false, false] rfl rfl (one_of HT_.out (by kernel_rfl)) (by decide) (fun K hK => ?_)
                 refine goes_ Try.func44 (by kernel_rfl) rfl #[.agg #[.int .i64 ((rd_T26 x5_2 x6_1).f0.f0), .int .i64 ((rd_T26 x5_2 x6_1).f0.f1), .int .i64 ((rd_T26 x5_2 x6_1).f1.f0), .int .i64 ((rd_T26 x5_2 x6_1).f1.f1)], .agg #[.int .i64 ((rd_T26 l0 x26_2).f0.f0), .int .i64 ((rd_T26 l0 x26_2).f0.f1), .int .i64 ((rd_T26 l0 x26_2).f1.f0), .int .i64 ((rd_T26 l0 x26_2).f1.f1)]] (by rfl) rfl rfl (by (try simp only [List.map_toArray, List.map_cons, List.map_nil]); first | done | rfl | (simp only [List.length_drop, List.length_take]; rfl)) ?_
                 with_reducible refine (impl_product.calls k2 ((rd_T26 x5_2 x6_1).f0.f0) ((rd_T26 x5_2 x6_1).f0.f1) ((rd_T26 x5_2 x6_1).f1.f0) ((rd_T26 x5_2 x6_1).f1.f1) ((rd_T26 l0 x26_2).f0.f0) ((rd_T26 l0 x26_2).f0.f1) ((rd_T26 l0 x26_2).f1.f0) ((rd_T26 l0 x26_2).f1.f1) t220 t221 t222 t223 true _ A16.out).mono ?_
                 rintro e w42 ⟨rfl, hb⟩
                 have HS4_ := (hb.cell (World.block_lt_of_cell? _ _ (hHeld.2.2.2.2.1))).trans (hHeld.2.2.2.2.1)
                 have HS5_ := (hb.cell (World.block_lt_of_cell? _ _ (hHeld.2.2.2.2.2.1))).trans (hHeld.2.2.2.2.2.1)
                 have HS6_ := (hb.cell (World.block_lt_of_cell? _ _ (hHeld.2.2.2.2.2.2.1))).trans (hHeld.2.2.2.2.2.2.1)
                 have HS7_ := (hb.cell (World.block_lt_of_cell? _ _ (hHeld.2.2.2.2.2.2.2))).trans (hHeld.2.2.2.2.2.2.2)
                 refine ⟨_, rfl, ?_⟩
                 have n0_ := Aside0.mk (Kd.R_below (by (with_reducible repeat (first | apply Kd.R_alloc | apply Kd.R_drewN | apply Kd.R_drew)); exact HO_5.out) hb)
                 have n1_ := Aside0.mk (blk_below (g := gb218) (o := .cells #[.int .i64 ((rd_T26 l0 x26_2).f0.f0), .int .i64 ((rd_T26 l0 x26_2).f0.f1), .int .i64 ((rd_T26 l0 x26_2).f1.f0), .int .i64 ((rd_T26 l0 x26_2).f1.f1)] 26 (0, 0)) (by (with_reducible repeat first | apply blk_drewN | apply blk_drew | apply blk_alloc); exact BK218.out) hb)
                 have n2_ := Aside0.mk (blk_below (g := gb225) (o := .cells #[.int .i64 0, .int .i64 0, .int .i64 0, .int .i64 0] 26 (0, 0)) (by (with_reducible repeat first | apply blk_drewN | apply blk_drew | apply blk_alloc); exact BK225.out) hb)
                 have n3_ := Aside0.mk (below_step (by repeat (first | (with_reducible first | exact HB.out | apply below_alloc | apply pw_below_drewN | apply below_drew1 | refine below_set ?_ GE218.out | refine below_set ?_ GE225.out) | exact HB.out)) hb)
                 clear HO_5
                 clear BK218
                 clear BK225
                 clear HB
                 have HO_5 := n0_
                 have BK218 := n1_
                 have BK225 := n2_
                 have HB := n3_
                 clear n0_ n1_ n2_ n3_
                 (try clear hb)
                 (try clear hb2)
                 (try clear hk)
                 (try clear hi)
                 refine hK.out _ _ ⟨(blk_cell BK218.out 0).trans rfl, (blk_cell BK218.out 1).trans rfl, (blk_cell BK218.out 2).trans rfl, (blk_cell BK218.out 3).trans rfl, HS4_, HS5_, HS6_, HS7_⟩ (fun hHeld => ?_)
                 clear hK K
                 refine norm_ (a' := ?_) ?_ ?_
                 rotate_left
                 ·show Act.put _ (some 36) _ = _
                  simp only [Act.put, lstS, lstZ, lstC, i64_w, i32_w]
                  rfl
                 refine pure_ (i := 6) (N := some 30) (v := ?_) (a' := ?_) #[true, true, true, true, true, true, true, false, false, true, false, false] rfl rfl (any_of HT_.out (by kernel_rfl)) (fun _ _ _ h => h) (Or.inl ⟨by rfl, ?_⟩) ?_ ?_
                 rotate_left
                 ·intro w'
                  go_simp
                  with_reducible rfl
                 rotate_left
                 ·simp only [Act.put, lstS, lstZ, lstC, i64_w, i32_w]
                  rfl
                 refine pure_ (i := 7) (N := some 37) (v := ?_) (a' := ?_) #[true, true, true, true, true, true, true, true, false, true, false, false] rfl rfl (any_of HT_.out (by kernel_rfl)) (fun _ _ _ h => h) (Or.inl ⟨by rfl, ?_⟩) ?_ ?_
                 rotate_left
                 ·intro w'
                  go_simp
                  with_reducible rfl
                 rotate_left
                 ·simp only [Act.put, lstS, lstZ, lstC, i64_w, i32_w]
                  rfl
                 refine pure_ (i := 8) (N := some 38) (v := ?_) (a' := ?_) #[true, true, true, true, true, true, true, true, true, true, false, false] rfl rfl (any_of HT_.out (by kernel_rfl)) (fun _ _ _ h => h) (Or.inl ⟨by rfl, ?_⟩) ?_ ?_
                 rotate_left
                 ·intro w'
                  go_simp
                  with_reducible rfl
                 rotate_left
                 ·simp only [Act.put, lstS, lstZ, lstC, i64_w, i32_w]
                  rfl
                 exact norm_ (by simp only [putAll, Act.put, lstS, lstZ, lstC]) (hCont (gb225) _ ⟨hHeld, (by (with_reducible repeat (first | apply Kd.R_alloc | apply Kd.R_drewN | apply Kd.R_drew)); exact HO_5.out), (by (with_reducible repeat first | apply blk_drewN | apply blk_drew | apply blk_alloc); exact BK218.out), (by (with_reducible repeat first | apply blk_drewN | apply blk_drew | apply blk_alloc); exact BK225.out), GW225.out, GE225.out, NB218_225.out, NB225_218.out, (by repeat (first | (with_reducible first | exact HB.out | apply below_alloc | apply pw_below_drewN | apply below_drew1 | refine below_set ?_ GE218.out | refine below_set ?_ GE225.out) | exact HB.out))⟩)
               rintro gb225 w43 ⟨hS_, h0_, h1_, h2_, h3_, h4_, h5_, h6_, h7_⟩
               have n0_ : Aside0 (Kd.R k26 26 w43 w.heap.size (fun k_ => k_ ≠ gb218 ∧ k_ ≠ gb225) (.slice (some ad219) x5_2.length co40) x5_2) := ⟨h0_⟩
               have n1_ : Aside0 (w43.heap[gb218]? = some (.cells #[.int .i64 ((rd_T26 l0 x26_2).f0.f0), .int .i64 ((rd_T26 l0 x26_2).f0.f1), .int .i64 ((rd_T26 l0 x26_2).f1.f0), .int .i64 ((rd_T26 l0 x26_2).f1.f1)] 26 (0, 0))) := ⟨h1_⟩
               have n2_ : Aside0 (w43.heap[gb225]? = some (.cells #[.int .i64 0, .int .i64 0, .int .i64 0, .int .i64 0] 26 (0, 0))) := ⟨h2_⟩
               have n3_ : Aside0 (w.heap.size ≤ gb225) := ⟨h3_⟩
               have n4_ : Aside0 (w.heap.size ≤ gb225) := ⟨h4_⟩
               have n5_ : Aside0 (gb218 ≠ gb225) := ⟨h5_⟩
               have n6_ : Aside0 (gb225 ≠ gb218) := ⟨h6_⟩
               have n7_ : Aside0 (Below w.heap.size w w43) := ⟨h7_⟩
               clear HO_5
               clear BK218
               clear HB
               clear h0_ h1_ h2_ h3_ h4_ h5_ h6_ h7_
               have HO_5 := n0_
               have BK218 := n1_
               have BK225 := n2_
               have GW225 := n3_
               have GE225 := n4_
               have NB218_225 := n5_
               have NB225_218 := n6_
               have HB := n7_
               clear n0_ n1_ n2_ n3_ n4_ n5_ n6_ n7_
               have hHeld : w43.cell? ⟨gb218, 0, none⟩ = some (.int .i64 ((rd_T26 l0 x26_2).f0.f0)) ∧ w43.cell? ⟨gb218, 1, none⟩ = some (.int .i64 ((rd_T26 l0 x26_2).f0.f1)) ∧ w43.cell? ⟨gb218, 2, none⟩ = some (.int .i64 ((rd_T26 l0 x26_2).f1.f0)) ∧ w43.cell? ⟨gb218, 3, none⟩ = some (.int .i64 ((rd_T26 l0 x26_2).f1.f1)) ∧ w43.cell? (ad219.add ((x6_1).toNat * 4)) = some (.int .i64 ((rd_T26 x5_2 x6_1).f0.f0)) ∧ w43.cell? ⟨(ad219.add ((x6_1).toNat * 4)).block, (ad219.add ((x6_1).toNat * 4)).off + 1, none⟩ = some (.int .i64 ((rd_T26 x5_2 x6_1).f0.f1)) ∧ w43.cell? ⟨(ad219.add ((x6_1).toNat * 4)).block, (ad219.add ((x6_1).toNat * 4)).off + 2, none⟩ = some (.int .i64 ((rd_T26 x5_2 x6_1).f1.f0)) ∧ w43.cell? ⟨(ad219.add ((x6_1).toNat * 4)).block, (ad219.add ((x6_1).toNat * 4)).off + 3, none⟩ = some (.int .i64 ((rd_T26 x5_2 x6_1).f1.f1)) := hS_
               refine norm_ (a' := ?_) ?_ ?_
               rotate_left
               ·simp only [putAll, Act.put, lstS, lstZ, lstC]
                rfl
               refine one_ (i := 10) (N := none) #[true, true, true, true, true, true, true, true, true, true, true, false] rfl rfl (one_of HT_.out (by kernel_rfl)) (by decide) (fun K hK => ?_)
               have hs44 : w43.cell? ⟨gb225, 0, none⟩ = some (.int .i64 0) := (blk_cell BK225.out 0).trans rfl
               have hfs44 := blk_frozen BK225.out 0
               have hns44_0 := NB218_225.out
               have hms44_0 := NB225_218.out
               have hs45 : w43.cell? ⟨gb225, 1, none⟩ = some (.int .i64 0) := (blk_cell BK225.out 1).trans rfl
               have hfs45 := blk_frozen BK225.out 1
               have hns45_0 := NB218_225.out
               have hms45_0 := NB225_218.out
               have hs46 : w43.cell? ⟨gb225, 2, none⟩ = some (.int .i64 0) := (blk_cell BK225.out 2).trans rfl
               have hfs46 := blk_frozen BK225.out 2
               have hns46_0 := NB218_225.out
               have hms46_0 := NB225_218.out
               have hs47 : w43.cell? ⟨gb225, 3, none⟩ = some (.int .i64 0) := (blk_cell BK225.out 3).trans rfl
               have hfs47 := blk_frozen BK225.out 3
               have hns47_0 := NB218_225.out
               have hms47_0 := NB225_218.out
               refine skip_ (w1 := ?_) (by rfl) rfl ?_ ?_
               rotate_left
               ·go_simp
                rfl
               refine hK.out _ _ ⟨((cell_far (p := ⟨gb225, _, none⟩) NB218_225.out _).trans (((cell_far (p := ⟨gb225, _, none⟩) NB218_225.out _).trans (((cell_far (p := ⟨gb225, _, none⟩) NB218_225.out _).trans (((cell_far (p := ⟨gb225, _, none⟩) NB218_225.out _).trans (hHeld.1)))))))), ((cell_far (p := ⟨gb225, _, none⟩) NB218_225.out _).trans (((cell_far (p := ⟨gb225, _, none⟩) NB218_225.out _).trans (((cell_far (p := ⟨gb225, _, none⟩) NB218_225.out _).trans (((cell_far (p := ⟨gb225, _, none⟩) NB218_225.out _).trans (hHeld.2.1)))))))), ((cell_far (p := ⟨gb225, _, none⟩) NB218_225.out _).trans (((cell_far (p := ⟨gb225, _, none⟩) NB218_225.out _).trans (((cell_far (p := ⟨gb225, _, none⟩) NB218_225.out _).trans (((cell_far (p := ⟨gb225, _, none⟩) NB218_225.out _).trans (hHeld.2.2.1)))))))), ((cell_far (p := ⟨gb225, _, none⟩) NB218_225.out _).trans (((cell_far (p := ⟨gb225, _, none⟩) NB218_225.out _).trans (((cell_far (p := ⟨gb225, _, none⟩) NB218_225.out _).trans (((cell_far (p := ⟨gb225, _, none⟩) NB218_225.out _).trans (hHeld.2.2.2.1)))))))), ((cell_far (p := ⟨gb225, _, none⟩) (by first | exact Kd.own_blk (Kd.R_away HO_5.out (fun _ hk => hk.2)) | (rw [add_block]; exact Kd.own_blk (Kd.R_away HO_5.out (fun _ hk => hk.2))) | (show (Addr.add _ _).block ≠ _; rw [add_block]; exact Kd.own_blk (Kd.R_away HO_5.out (fun _ hk => hk.2))) | (dsimp only; exact Kd.own_blk (Kd.R_away HO_5.out (fun _ hk => hk.2)))) _).trans (((cell_far (p := ⟨gb225, _, none⟩) (by first | exact Kd.own_blk (Kd.R_away HO_5.out (fun _ hk => hk.2)) | (rw [add_block]; exact Kd.own_blk (Kd.R_away HO_5.out (fun _ hk => hk.2))) | (show (Addr.add _ _).block ≠ _; rw [add_block]; exact Kd.own_blk (Kd.R_away HO_5.out (fun _ hk => hk.2))) | (dsimp only; exact Kd.own_blk (Kd.R_away HO_5.out (fun _ hk => hk.2)))) _).trans (((cell_far (p := ⟨gb225, _, none⟩) (by first | exact Kd.own_blk (Kd.R_away HO_5.out (fun _ hk => hk.2)) | (rw [add_block]; exact Kd.own_blk (Kd.R_away HO_5.out (fun _ hk => hk.2))) | (show (Addr.add _ _).block ≠ _; rw [add_block]; exact Kd.own_blk (Kd.R_away HO_5.out (fun _ hk => hk.2))) | (dsimp only; exact Kd.own_blk (Kd.R_away HO_5.out (fun _ hk => hk.2)))) _).trans (((cell_far (p := ⟨gb225, _, none⟩) (by first | exact Kd.own_blk (Kd.R_away HO_5.out (fun _ hk => hk.2)) | (rw [add_block]; exact Kd.own_blk (Kd.R_away HO_5.out (fun _ hk => hk.2))) | (show (Addr.add _ _).block ≠ _; rw [add_block]; exact Kd.own_blk (Kd.R_away HO_5.out (fun _ hk => hk.2))) | (dsimp only; exact Kd.own_blk (Kd.R_away HO_5.out (fun _ hk => hk.2)))) _).trans (hHeld.2.2.2.2.1)))))))), ((cell_far (p := ⟨gb225, _, none⟩) (by first | exact Kd.own_blk (Kd.R_away HO_5.out (fun _ hk => hk.2)) | (rw [add_block]; exact Kd.own_blk (Kd.R_away HO_5.out (fun _ hk => hk.2))) | (show (Addr.add _ _).block ≠ _; rw [add_block]; exact Kd.own_blk (Kd.R_away HO_5.out (fun _ hk => hk.2))) | (dsimp only; exact Kd.own_blk (Kd.R_away HO_5.out (fun _ hk => hk.2)))) _).trans (((cell_far (p := ⟨gb225, _, none⟩) (by first | exact Kd.own_blk (Kd.R_away HO_5.out (fun _ hk => hk.2)) | (rw [add_block]; exact Kd.own_blk (Kd.R_away HO_5.out (fun _ hk => hk.2))) | (show (Addr.add _ _).block ≠ _; rw [add_block]; exact Kd.own_blk (Kd.R_away HO_5.out (fun _ hk => hk.2))) | (dsimp only; exact Kd.own_blk (Kd.R_away HO_5.out (fun _ hk => hk.2)))) _).trans (((cell_far (p := ⟨gb225, _, none⟩) (by first | exact Kd.own_blk (Kd.R_away HO_5.out (fun _ hk => hk.2)) | (rw [add_block]; exact Kd.own_blk (Kd.R_away HO_5.out (fun _ hk => hk.2))) | (show (Addr.add _ _).block ≠ _; rw [add_block]; exact Kd.own_blk (Kd.R_away HO_5.out (fun _ hk => hk.2))) | (dsimp only; exact Kd.own_blk (Kd.R_away HO_5.out (fun _ hk => hk.2)))) _).trans (((cell_far (p := ⟨gb225, _, none⟩) (by first | exact Kd.own_blk (Kd.R_away HO_5.out (fun _ hk => hk.2)) | (rw [add_block]; exact Kd.own_blk (Kd.R_away HO_5.out (fun _ hk => hk.2))) | (show (Addr.add _ _).block ≠ _; rw [add_block]; exact Kd.own_blk (Kd.R_away HO_5.out (fun _ hk => hk.2))) | (dsimp only; exact Kd.own_blk (Kd.R_away HO_5.out (fun _ hk => hk.2)))) _).trans (hHeld.2.2.2.2.2.1)))))))), ((cell_far (p := ⟨gb225, _, none⟩) (by first | exact Kd.own_blk (Kd.R_away HO_5.out (fun _ hk => hk.2)) | (rw [add_block]; exact Kd.own_blk (Kd.R_away HO_5.out (fun _ hk => hk.2))) | (show (Addr.add _ _).block ≠ _; rw [add_block]; exact Kd.own_blk (Kd.R_away HO_5.out (fun _ hk => hk.2))) | (dsimp only; exact Kd.own_blk (Kd.R_away HO_5.out (fun _ hk => hk.2)))) _).trans (((cell_far (p := ⟨gb225, _, none⟩) (by first | exact Kd.own_blk (Kd.R_away HO_5.out (fun _ hk => hk.2)) | (rw [add_block]; exact Kd.own_blk (Kd.R_away HO_5.out (fun _ hk => hk.2))) | (show (Addr.add _ _).block ≠ _; rw [add_block]; exact Kd.own_blk (Kd.R_away HO_5.out (fun _ hk => hk.2))) | (dsimp only; exact Kd.own_blk (Kd.R_away HO_5.out (fun _ hk => hk.2)))) _).trans (((cell_far (p := ⟨gb225, _, none⟩) (by first | exact Kd.own_blk (Kd.R_away HO_5.out (fun _ hk => hk.2)) | (rw [add_block]; exact Kd.own_blk (Kd.R_away HO_5.out (fun _ hk => hk.2))) | (show (Addr.add _ _).block ≠ _; rw [add_block]; exact Kd.own_blk (Kd.R_away HO_5.out (fun _ hk => hk.2))) | (dsimp only; exact Kd.own_blk (Kd.R_away HO_5.out (fun _ hk => hk.2)))) _).trans (((cell_far (p := ⟨gb225, _, none⟩) (by first | exact Kd.own_blk (Kd.R_away HO_5.out (fun _ hk => hk.2)) | (rw [add_block]; exact Kd.own_blk (Kd.R_away HO_5.out (fun _ hk => hk.2))) | (show (Addr.add _ _).block ≠ _; rw [add_block]; exact Kd.own_blk (Kd.R_away HO_5.out (fun _ hk => hk.2))) | (dsimp only; exact Kd.own_blk (Kd.R_away HO_5.out (fun _ hk => hk.2)))) _).trans (hHeld.2.2.2.2.2.2.1)))))))), ((cell_far (p := ⟨gb225, _, none⟩) (by first | exact Kd.own_blk (Kd.R_away HO_5.out (fun _ hk => hk.2)) | (rw [add_block]; exact Kd.own_blk (Kd.R_away HO_5.out (fun _ hk => hk.2))) | (show (Addr.add _ _).block ≠ _; rw [add_block]; exact Kd.own_blk (Kd.R_away HO_5.out (fun _ hk => hk.2))) | (dsimp only; exact Kd.own_blk (Kd.R_away HO_5.out (fun _ hk => hk.2)))) _).trans (((cell_far (p := ⟨gb225, _, none⟩) (by first | exact Kd.own_blk (Kd.R_away HO_5.out (fun _ hk => hk.2)) | (rw [add_block]; exact Kd.own_blk (Kd.R_away HO_5.out (fun _ hk => hk.2))) | (show (Addr.add _ _).block ≠ _; rw [add_block]; exact Kd.own_blk (Kd.R_away HO_5.out (fun _ hk => hk.2))) | (dsimp only; exact Kd.own_blk (Kd.R_away HO_5.out (fun _ hk => hk.2)))) _).trans (((cell_far (p := ⟨gb225, _, none⟩) (by first | exact Kd.own_blk (Kd.R_away HO_5.out (fun _ hk => hk.2)) | (rw [add_block]; exact Kd.own_blk (Kd.R_away HO_5.out (fun _ hk => hk.2))) | (show (Addr.add _ _).block ≠ _; rw [add_block]; exact Kd.own_blk (Kd.R_away HO_5.out (fun _ hk => hk.2))) | (dsimp only; exact Kd.own_blk (Kd.R_away HO_5.out (fun _ hk => hk.2)))) _).trans (((cell_far (p := ⟨gb225, _, none⟩) (by first | exact Kd.own_blk (Kd.R_away HO_5.out (fun _ hk => hk.2)) | (rw [add_block]; exact Kd.own_blk (Kd.R_away HO_5.out (fun _ hk => hk.2))) | (show (Addr.add _ _).block ≠ _; rw [add_block]; exact Kd.own_blk (Kd.R_away HO_5.out (fun _ hk => hk.2))) | (dsimp only; exact Kd.own_blk (Kd.R_away HO_5.out (fun _ hk => hk.2)))) _).trans (hHeld.2.2.2.2.2.2.2))))))))⟩ (fun hHeld => ?_)
               clear hK K
               refine pure_ (i := 11) (N := some 10) (v := ?_) (a' := ?_) #[true, true, true, true, true, true, true, true, true, true, true, true] rfl rfl (any_of HT_.out (by kernel_rfl)) (fun _ _ _ h => h) (Or.inl ⟨by rfl, ?_⟩) ?_ ?_
               rotate_left
               ·intro w'
                go_simp
                with_reducible rfl
               rotate_left
               ·simp only [Act.put, lstS, lstZ, lstC, i64_w, i32_w]
                rfl
               refine done_ (done_of HT_.out (by kernel_rfl)) ?_
               have hnb48 := NB225_218.out
               have hnc48 := NB218_225.out
               have hcz49_0 : w43.cell? ⟨gb225, 0, none⟩ = some (.int .i64 0) := (blk_cell BK225.out 0).trans rfl
               have hcz49_1 : w43.cell? ⟨gb225, 1, none⟩ = some (.int .i64 0) := (blk_cell BK225.out 1).trans rfl
               have hcz49_2 : w43.cell? ⟨gb225, 2, none⟩ = some (.int .i64 0) := (blk_cell BK225.out 2).trans rfl
               have hcz49_3 : w43.cell? ⟨gb225, 3, none⟩ = some (.int .i64 0) := (blk_cell BK225.out 3).trans rfl
               have hfz49_0 := blk_frozen BK225.out 0
               have hfz49_1 := blk_frozen BK225.out 1
               have hfz49_2 := blk_frozen BK225.out 2
               have hfz49_3 := blk_frozen BK225.out 3
               try go_wp2_with (first | ((with_reducible refine gate_callee (f := 51) rfl ?_); refine goesL_ (some 43) rfl rfl Try.func51 (by kernel_rfl) rfl #[.slice (some ad219) x5_2.length co40, .agg #[.int .i64 t220, .int .i64 t221, .int .i64 t222, .int .i64 t223]] rfl (by (try simp only [List.map_toArray, List.map_cons, List.map_nil]); first | done | rfl | (simp only [List.length_drop, List.length_take]; rfl)) ?_; (with_reducible refine (impl_Matrix_51.calls k2 _ _ x5_2 t220 t221 t222 t223 true _ ?side1 ?side2 A18.out).mono ?_); (case side1 => refine (Kd.R_reads' (e := 26) (base := w.heap.size) (ok := fun k_ => (k_ ≠ gb218 ∧ k_ ≠ gb225)) (n := x5_2.length) (c := co40) ?_).2.2; exact (by (with_reducible repeat (first | apply Kd.R_alloc | apply Kd.R_drewN | apply Kd.R_drew)); exact (Kd.R_mono (Kd.R_far (p := ⟨gb225, 3, none⟩) (Kd.R_far (p := ⟨gb225, 2, none⟩) (Kd.R_far (p := ⟨gb225, 1, none⟩) (Kd.R_far (p := ⟨gb225, 0, none⟩) (Kd.R_mono HO_5.out (fun k_ hk => (⟨hk, hk.2⟩ : _ ∧ k_ ≠ gb225))) (fun _ hk => hk.2) (.int .i64 t220)) (fun _ hk => hk.2) (.int .i64 t221)) (fun _ hk => hk.2) (.int .i64 t222)) (fun _ hk => hk.2) (.int .i64 t223)) (fun _ h_ => h_.1)))); (case side2 => exact (Kd.R_reads' HO_5.out).2.1); rintro e w50 ⟨rfl, hb⟩; refine ⟨_, rfl, ?_⟩; have n0_ := Aside0.mk (Kd.R_below (by (with_reducible repeat (first | apply Kd.R_alloc | apply Kd.R_drewN | apply Kd.R_drew)); exact (Kd.R_mono (Kd.R_far (p := ⟨gb225, 3, none⟩) (Kd.R_far (p := ⟨gb225, 2, none⟩) (Kd.R_far (p := ⟨gb225, 1, none⟩) (Kd.R_far (p := ⟨gb225, 0, none⟩) (Kd.R_mono HO_5.out (fun k_ hk => (⟨hk, hk.2⟩ : _ ∧ k_ ≠ gb225))) (fun _ hk => hk.2) (.int .i64 t220)) (fun _ hk => hk.2) (.int .i64 t221)) (fun _ hk => hk.2) (.int .i64 t222)) (fun _ hk => hk.2) (.int .i64 t223)) (fun _ h_ => h_.1))) hb); have n1_ := Aside0.mk (blk_below (g := gb218) (o := .cells #[.int .i64 ((rd_T26 l0 x26_2).f0.f0), .int .i64 ((rd_T26 l0 x26_2).f0.f1), .int .i64 ((rd_T26 l0 x26_2).f1.f0), .int .i64 ((rd_T26 l0 x26_2).f1.f1)] 26 (0, 0)) (by (with_reducible repeat first | apply blk_drewN | apply blk_drew | apply blk_alloc); refine blk_far ?_ NB218_225.out _; (with_reducible repeat first | apply blk_drewN | apply blk_drew | apply blk_alloc); refine blk_far ?_ NB218_225.out _; (with_reducible repeat first | apply blk_drewN | apply blk_drew | apply blk_alloc); refine blk_far ?_ NB218_225.out _; (with_reducible repeat first | apply blk_drewN | apply blk_drew | apply blk_alloc); refine blk_far ?_ NB218_225.out _; (with_reducible repeat first | apply blk_drewN | apply blk_drew | apply blk_alloc); exact BK218.out) hb); have n2_ := Aside0.mk (blk_below (g := gb225) (o := .cells #[.int .i64 t220, .int .i64 t221, .int .i64 t222, .int .i64 t223] 26 (0, 0)) (by (with_reducible repeat first | apply blk_drewN | apply blk_drew | apply blk_alloc); refine blk_put (cs := #[.int .i64 t220, .int .i64 t221, .int .i64 t222, .int .i64 0]) ?_ 3 _ rfl; (with_reducible repeat first | apply blk_drewN | apply blk_drew | apply blk_alloc); refine blk_put (cs := #[.int .i64 t220, .int .i64 t221, .int .i64 0, .int .i64 0]) ?_ 2 _ rfl; (with_reducible repeat first | apply blk_drewN | apply blk_drew | apply blk_alloc); refine blk_put (cs := #[.int .i64 t220, .int .i64 0, .int .i64 0, .int .i64 0]) ?_ 1 _ rfl; (with_reducible repeat first | apply blk_drewN | apply blk_drew | apply blk_alloc); refine blk_put (cs := #[.int .i64 0, .int .i64 0, .int .i64 0, .int .i64 0]) ?_ 0 _ rfl; (with_reducible repeat first | apply blk_drewN | apply blk_drew | apply blk_alloc); exact BK225.out) hb); have n3_ := Aside0.mk (below_step (by repeat (first | (with_reducible first | exact HB.out | apply below_alloc | apply pw_below_drewN | apply below_drew1 | refine below_set ?_ GE218.out | refine below_set ?_ GE225.out) | exact HB.out)) hb); clear HO_5; clear BK218; clear BK225; clear HB; have HO_5 := n0_; have BK218 := n1_; have BK225 := n2_; have HB := n3_; clear n0_ n1_ n2_ n3_; (try clear hb); (try clear hb2); (try clear hk); (try clear hi)))
               go_roundg k2
               case measure => have := HK1.out; have := HK2.out; omega
               case rel => exact ⟨(x5_2), (wrap64 (x26_2 + 1)), (by first | rfl | (simp; done) | (simp [*]; done) | (simp [wrap64]; done)), H', ⟨by have := HK1.out; have := HK2.out; omega⟩, ⟨by (with_reducible repeat (first | apply Kd.R_alloc | apply Kd.R_drewN | apply Kd.R_drew)); exact Kd.R_mono HO_5.out (fun _ hk => trivial)⟩, ⟨by repeat (first | (with_reducible first | exact HB.out | apply below_alloc | apply pw_below_drewN | apply below_drew1 | refine below_set ?_ GE218.out | refine below_set ?_ GE225.out) | exact HB.out)⟩⟩
             ·replace c19 := Bool.eq_false_iff.mpr c19
              subst c19
              have H1 : (if x5_2.length < 4398046511104 then ((some (x5_2 ++ [(⟨(⟨t220, t221⟩ : S22), (⟨t222, t223⟩ : S22)⟩ : S26)] : List (S26))).bind fun y227 => (if (y227.length : Int) > 48 then (some (([] : List (S26)), 3)) else (impl_GroupOf.l1 k2 l0 y227 x6_1 l0 (l0.length : Int) (wrap64 (x26_2 + 1))))) else (none)) = some (r1, r2) := by rw [if_neg (show ¬ (false = true) by decide)] at H; exact H
              clear H
              have H := H1
              clear H1
              by_cases c51 : x5_2.length < 4398046511104
              ·rw [if_pos c51] at H
               have LMc51 := Aside0.mk c51
               clear c51
               obtain ⟨y227, hy227⟩ : ∃ y_ : List (S26), y_ = (x5_2 ++ [(⟨(⟨t220, t221⟩ : S22), (⟨t222, t223⟩ : S22)⟩ : S26)]) := ⟨_, rfl⟩
               replace H : (if (y227.length : Int) > 48 then (some (([] : List (S26)), 3)) else (impl_GroupOf.l1 k2 l0 y227 x6_1 l0 (l0.length : Int) (wrap64 (x26_2 + 1)))) = some (r1, r2) := by first | (rw [hy227]; with_reducible exact H) | (have H2_ := (Option.bind_some _ _).symm.trans H; rw [hy227]; with_reducible exact H2_) | (have H2_ := (Option.bind_some _ _).symm.trans H; with_reducible exact H2_) | with_reducible exact H | (rw [hy227]; exact H) | exact H
               have Ny227 := Aside0.mk hy227
               clear hy227
               by_cases c52 : (y227.length : Int) > 48
               ·rw [if_pos c52] at H
                have c52b0 : decide (48 < (y227.length : Int)) = true := decide_eq_true c52
                have c52b1 : decide (48 < y227.length) = true := decide_eq_true (by omega)
                clear c52
                simp only [Option.some.injEq, Prod.mk.injEq] at H
                obtain ⟨rfl, rfl⟩ := H
                have p217 : 0 ≤ (x26_2 : Int) := of_decide_eq_true (by first | (with_reducible assumption) | assumption)
                have q217 : x26_2 < (l0.length : Int) := of_decide_eq_true (by first | (with_reducible assumption) | assumption)
                obtain ⟨ad217, e217, hx217_0, hx217_1, hx217_2, hx217_3⟩ := at_T26 HR0.out x26_2 p217 q217
                cases e217
                replace hx217_0 := clTr HB.out hx217_0
                replace hx217_1 := clTr HB.out hx217_1
                replace hx217_2 := clTr HB.out hx217_2
                replace hx217_3 := clTr HB.out hx217_3
                replace p217 := eq_true p217
                replace q217 := eq_true q217
                try go_wp2_with (first | ((with_reducible refine gate_dst (N := 8) rfl ?_); refine box_event ?hg (N := 8) ?hd (cs := #[.int .i64 0, .int .i64 0, .int .i64 0, .int .i64 0]) (t := 26) ?hr ?_; (case hd => rfl); (case hg => rfl); (case hr => first | (go_simp; done) | (go_simp; rfl)); intro gb218 hg w53 hbox hb; have n0_ := Aside0.mk (Kd.R_below (Kd.R_elderB (by (with_reducible repeat (first | apply Kd.R_alloc | apply Kd.R_drewN | apply Kd.R_drew)); exact HO_5.out) gb218 (Nat.le_of_eq hg.symm)) hb); have n1_ := Aside0.mk (below_step (by repeat (first | (with_reducible first | exact HB.out | apply below_alloc | apply pw_below_drewN | apply below_drew1) | exact HB.out)) hb); have n2_ := Aside0.mk (hbox); have n3_ := Aside0.mk ((by rw [hg]; exact (below_size (by repeat (first | (with_reducible first | exact HB.out | apply below_alloc | apply pw_below_drewN | apply below_drew1) | exact HB.out))) : w.heap.size ≤ gb218)); have n4_ := Aside0.mk ((by rw [hg]; exact (below_size (by repeat (first | (with_reducible first | exact HB.out | apply below_alloc | apply pw_below_drewN | apply below_drew1) | exact HB.out))) : w.heap.size ≤ gb218)); clear HO_5; clear HB; have HO_5 := n0_; have HB := n1_; have BK218 := n2_; have GW218 := n3_; have GE218 := n4_; clear n0_ n1_ n2_ n3_ n4_; clear hb hbox hg; have hcz54_0 : w53.cell? ⟨gb218, 0, none⟩ = some (.int .i64 0) := (blk_cell BK218.out 0).trans rfl; have hcz54_1 : w53.cell? ⟨gb218, 1, none⟩ = some (.int .i64 0) := (blk_cell BK218.out 1).trans rfl; have hcz54_2 : w53.cell? ⟨gb218, 2, none⟩ = some (.int .i64 0) := (blk_cell BK218.out 2).trans rfl; have hcz54_3 : w53.cell? ⟨gb218, 3, none⟩ = some (.int .i64 0) := (blk_cell BK218.out 3).trans rfl; have hfz54_0 := blk_frozen BK218.out 0; have hfz54_1 := blk_frozen BK218.out 1; have hfz54_2 := blk_frozen BK218.out 2; have hfz54_3 := blk_frozen BK218.out 3))
                have n0_ : Aside0 (Kd.R k26 26 ((((w53.setCell ⟨gb218, 0, none⟩ (.int .i64 ((rd_T26 l0 x26_2).f0.f0))).setCell ⟨gb218, 1, none⟩ (.int .i64 ((rd_T26 l0 x26_2).f0.f1))).setCell ⟨gb218, 2, none⟩ (.int .i64 ((rd_T26 l0 x26_2).f1.f0))).setCell ⟨gb218, 3, none⟩ (.int .i64 ((rd_T26 l0 x26_2).f1.f1))) w.heap.size (fun k_ => k_ ≠ gb218) u5 x5_2) := ⟨by (with_reducible repeat (first | apply Kd.R_alloc | apply Kd.R_drewN | apply Kd.R_drew)); exact Kd.R_mono (Kd.R_far (p := ⟨gb218, 3, none⟩) (Kd.R_far (p := ⟨gb218, 2, none⟩) (Kd.R_far (p := ⟨gb218, 1, none⟩) (Kd.R_far (p := ⟨gb218, 0, none⟩) (Kd.R_mono HO_5.out (fun k_ hk => (⟨hk, hk.2⟩ : _ ∧ k_ ≠ gb218))) (fun _ hk => hk.2) (.int .i64 ((rd_T26 l0 x26_2).f0.f0))) (fun _ hk => hk.2) (.int .i64 ((rd_T26 l0 x26_2).f0.f1))) (fun _ hk => hk.2) (.int .i64 ((rd_T26 l0 x26_2).f1.f0))) (fun _ hk => hk.2) (.int .i64 ((rd_T26 l0 x26_2).f1.f1))) (fun _ hk => hk.1.2)⟩
                have n1_ : Aside0 (((((w53.setCell ⟨gb218, 0, none⟩ (.int .i64 ((rd_T26 l0 x26_2).f0.f0))).setCell ⟨gb218, 1, none⟩ (.int .i64 ((rd_T26 l0 x26_2).f0.f1))).setCell ⟨gb218, 2, none⟩ (.int .i64 ((rd_T26 l0 x26_2).f1.f0))).setCell ⟨gb218, 3, none⟩ (.int .i64 ((rd_T26 l0 x26_2).f1.f1))).heap[gb218]? = some (.cells #[.int .i64 ((rd_T26 l0 x26_2).f0.f0), .int .i64 ((rd_T26 l0 x26_2).f0.f1), .int .i64 ((rd_T26 l0 x26_2).f1.f0), .int .i64 ((rd_T26 l0 x26_2).f1.f1)] 26 (0, 0))) := ⟨by (with_reducible repeat first | apply blk_drewN | apply blk_drew | apply blk_alloc); refine blk_put (cs := #[.int .i64 ((rd_T26 l0 x26_2).f0.f0), .int .i64 ((rd_T26 l0 x26_2).f0.f1), .int .i64 ((rd_T26 l0 x26_2).f1.f0), .int .i64 0]) ?_ 3 _ rfl; (with_reducible repeat first | apply blk_drewN | apply blk_drew | apply blk_alloc); refine blk_put (cs := #[.int .i64 ((rd_T26 l0 x26_2).f0.f0), .int .i64 ((rd_T26 l0 x26_2).f0.f1), .int .i64 0, .int .i64 0]) ?_ 2 _ rfl; (with_reducible repeat first | apply blk_drewN | apply blk_drew | apply blk_alloc); refine blk_put (cs := #[.int .i64 ((rd_T26 l0 x26_2).f0.f0), .int .i64 0, .int .i64 0, .int .i64 0]) ?_ 1 _ rfl; (with_reducible repeat first | apply blk_drewN | apply blk_drew | apply blk_alloc); refine blk_put (cs := #[.int .i64 0, .int .i64 0, .int .i64 0, .int .i64 0]) ?_ 0 _ rfl; (with_reducible repeat first | apply blk_drewN | apply blk_drew | apply blk_alloc); exact BK218.out⟩
                have n2_ : Aside0 (Below w.heap.size w ((((w53.setCell ⟨gb218, 0, none⟩ (.int .i64 ((rd_T26 l0 x26_2).f0.f0))).setCell ⟨gb218, 1, none⟩ (.int .i64 ((rd_T26 l0 x26_2).f0.f1))).setCell ⟨gb218, 2, none⟩ (.int .i64 ((rd_T26 l0 x26_2).f1.f0))).setCell ⟨gb218, 3, none⟩ (.int .i64 ((rd_T26 l0 x26_2).f1.f1)))) := ⟨by repeat (first | (with_reducible first | exact HB.out | apply below_alloc | apply pw_below_drewN | apply below_drew1 | refine below_set ?_ GE218.out) | exact HB.out)⟩
                (try clear HO_5)
                (try clear BK218)
                (try clear HB)
                generalize ((((w53.setCell ⟨gb218, 0, none⟩ (.int .i64 ((rd_T26 l0 x26_2).f0.f0))).setCell ⟨gb218, 1, none⟩ (.int .i64 ((rd_T26 l0 x26_2).f0.f1))).setCell ⟨gb218, 2, none⟩ (.int .i64 ((rd_T26 l0 x26_2).f1.f0))).setCell ⟨gb218, 3, none⟩ (.int .i64 ((rd_T26 l0 x26_2).f1.f1))) = w55 at n0_ n1_ n2_ ⊢
                have HO_5 := n0_
                have BK218 := n1_
                have HB := n2_
                clear n0_ n1_ n2_
                have n0_ := Aside0.mk (Kd.R_drew HO_5.out)
                have n1_ := Aside0.mk (blk_drew BK218.out)
                have n2_ := Aside0.mk (below_drew1 HB.out)
                clear HO_5
                clear BK218
                clear HB
                have HO_5 := n0_
                have BK218 := n1_
                have HB := n2_
                clear n0_ n1_ n2_
                obtain ⟨Ao57, co57, eo57⟩ := Kd.R_slice HO_5.out
                (first | subst eo57 | (injection eo57 with f1_ f2_ f3_; have f4_ := f1_.symm; have f5_ := f3_.symm; clear f1_ f2_ f3_; subst f4_; subst f5_))
                have p219 : 0 ≤ (x6_1 : Int) := of_decide_eq_true (by first | (with_reducible assumption) | assumption)
                have q219 : x6_1 < (x5_2.length : Int) := of_decide_eq_true (by first | (with_reducible assumption) | assumption)
                obtain ⟨ad219, e219, hx219_0, hx219_1, hx219_2, hx219_3⟩ := at_T26 (Kd.R_reads' HO_5.out).2.2 x6_1 p219 q219
                cases e219
                replace p219 := eq_true p219
                replace q219 := eq_true q219
                refine start_ (n := 12) (S := fun w' => w'.cell? ⟨gb218, 0, none⟩ = some (.int .i64 ((rd_T26 l0 x26_2).f0.f0)) ∧ w'.cell? ⟨gb218, 1, none⟩ = some (.int .i64 ((rd_T26 l0 x26_2).f0.f1)) ∧ w'.cell? ⟨gb218, 2, none⟩ = some (.int .i64 ((rd_T26 l0 x26_2).f1.f0)) ∧ w'.cell? ⟨gb218, 3, none⟩ = some (.int .i64 ((rd_T26 l0 x26_2).f1.f1)) ∧ w'.cell? (ad219.add ((x6_1).toNat * 4)) = some (.int .i64 ((rd_T26 x5_2 x6_1).f0.f0)) ∧ w'.cell? ⟨(ad219.add ((x6_1).toNat * 4)).block, (ad219.add ((x6_1).toNat * 4)).off + 1, none⟩ = some (.int .i64 ((rd_T26 x5_2 x6_1).f0.f1)) ∧ w'.cell? ⟨(ad219.add ((x6_1).toNat * 4)).block, (ad219.add ((x6_1).toNat * 4)).off + 2, none⟩ = some (.int .i64 ((rd_T26 x5_2 x6_1).f1.f0)) ∧ w'.cell? ⟨(ad219.add ((x6_1).toNat * 4)).block, (ad219.add ((x6_1).toNat * 4)).off + 3, none⟩ = some (.int .i64 ((rd_T26 x5_2 x6_1).f1.f1))) (ds := []) #[false, false, false, false, false, false, false, false, false, false, false, false] (by kernel_rfl) rfl rfl ⟨(blk_cell BK218.out 0).trans rfl, (blk_cell BK218.out 1).trans rfl, (blk_cell BK218.out 2).trans rfl, (blk_cell BK218.out 3).trans rfl, hx219_0, hx219_1, hx219_2, hx219_3⟩ (fun hHeld => ?_); refine with_tabW impl_GroupOf.tab11 impl_GroupOf.bits11 (fun HT_ HW_ => ?_)
                generalize w55.drew = w56 at HO_5 BK218 HB hx219_0 hx219_1 hx219_2 hx219_3 hHeld ⊢
                refine pure_ (i := 0) (N := some 31) (v := ?_) (a' := ?_) #[true, false, false, false, false, false, false, false, false, false, false, false] rfl rfl (any_of HT_.out (by kernel_rfl)) (fun _ _ _ h => h) (Or.inl ⟨by rfl, ?_⟩) ?_ ?_
                rotate_left
                ·intro w'
                 go_simp
                 with_reducible rfl
                rotate_left
                ·simp only [Act.put, lstS, lstZ, lstC, i64_w, i32_w]
                 rfl
                refine pure_ (i := 1) (N := some 32) (v := ?_) (a' := ?_) #[true, true, false, false, false, false, false, false, false, false, false, false] rfl rfl (any_of HT_.out (by kernel_rfl)) (fun _ _ _ h => h) (Or.inl ⟨by rfl, ?_⟩) ?_ ?_
                rotate_left
                ·intro w'
                 go_simp
                 with_reducible rfl
                rotate_left
                ·simp only [Act.put, lstS, lstZ, lstC, i64_w, i32_w]
                 rfl
                refine pure_ (i := 2) (N := some 33) (v := ?_) (a' := ?_) #[true, true, true, false, false, false, false, false, false, false, false, false] rfl rfl (any_of HT_.out (by kernel_rfl)) (fun _ _ _ h => h) (Or.inl ⟨by rfl, ?_⟩) ?_ ?_
                rotate_left
                ·intro w'
                 go_simp
                 with_reducible rfl
                rotate_left
                ·simp only [Act.put, lstS, lstZ, lstC, i64_w, i32_w]
                 rfl
                refine take_ (i := 3) (N := some 34) (v := ?_) (a' := ?_) #[true, true, true, true, false, false, false, false, false, false, false, false] rfl rfl (take_ofW HT_.out HW_.out (by kernel_rfl)) (fun _ _ _ h => h) (Or.inl ⟨by rfl, ?_⟩) hHeld ?_ ?_
                rotate_left
                ·rintro w' ⟨s0, s1, s2, s3, s4, s5, s6, s7⟩
                 go_simp
                 with_reducible rfl
                rotate_left
                ·simp only [Act.put, lstS, lstZ, lstC, i64_w, i32_w]
                 rfl
                refine take_ (i := 4) (N := some 35) (v := ?_) (a' := ?_) #[true, true, true, true, true, false, false, false, false, false, false, false] rfl rfl (take_ofW HT_.out HW_.out (by kernel_rfl)) (fun _ _ _ h => h) (Or.inl ⟨by rfl, ?_⟩) hHeld ?_ ?_
                rotate_left
                ·rintro w' ⟨s0, s1, s2, s3, s4, s5, s6, s7⟩
                 go_simp
                 with_reducible rfl
                rotate_left
                ·simp only [Act.put, lstS, lstZ, lstC, i64_w, i32_w]
                 rfl
                refine join_ (σ := Nat) 2 #[true, true, true, true, true, true, true, true, true, true, false, false] (fun s_ => [(36, .tuple #[.agg #[.int .i64 t220, .int .i64 t221, .int .i64 t222, .int .i64 t223], .bool true]), (9, .pointer (some ⟨s_, 0, none⟩)), (30, .tuple #[.agg #[.int .i64 t220, .int .i64 t221, .int .i64 t222, .int .i64 t223], .bool true]), (37, .agg #[.int .i64 t220, .int .i64 t221, .int .i64 t222, .int .i64 t223]), (38, .bool true)]) (fun s_ w' => (w'.cell? ⟨gb218, 0, none⟩ = some (.int .i64 ((rd_T26 l0 x26_2).f0.f0)) ∧ w'.cell? ⟨gb218, 1, none⟩ = some (.int .i64 ((rd_T26 l0 x26_2).f0.f1)) ∧ w'.cell? ⟨gb218, 2, none⟩ = some (.int .i64 ((rd_T26 l0 x26_2).f1.f0)) ∧ w'.cell? ⟨gb218, 3, none⟩ = some (.int .i64 ((rd_T26 l0 x26_2).f1.f1)) ∧ w'.cell? (ad219.add ((x6_1).toNat * 4)) = some (.int .i64 ((rd_T26 x5_2 x6_1).f0.f0)) ∧ w'.cell? ⟨(ad219.add ((x6_1).toNat * 4)).block, (ad219.add ((x6_1).toNat * 4)).off + 1, none⟩ = some (.int .i64 ((rd_T26 x5_2 x6_1).f0.f1)) ∧ w'.cell? ⟨(ad219.add ((x6_1).toNat * 4)).block, (ad219.add ((x6_1).toNat * 4)).off + 2, none⟩ = some (.int .i64 ((rd_T26 x5_2 x6_1).f1.f0)) ∧ w'.cell? ⟨(ad219.add ((x6_1).toNat * 4)).block, (ad219.add ((x6_1).toNat * 4)).off + 3, none⟩ = some (.int .i64 ((rd_T26 x5_2 x6_1).f1.f1))) ∧ (Kd.R k26 26 w' w.heap.size (fun k_ => k_ ≠ gb218 ∧ k_ ≠ s_) (.slice (some ad219) x5_2.length co57) x5_2) ∧ (w'.heap[gb218]? = some (.cells #[.int .i64 ((rd_T26 l0 x26_2).f0.f0), .int .i64 ((rd_T26 l0 x26_2).f0.f1), .int .i64 ((rd_T26 l0 x26_2).f1.f0), .int .i64 ((rd_T26 l0 x26_2).f1.f1)] 26 (0, 0))) ∧ (w'.heap[s_]? = some (.cells #[.int .i64 0, .int .i64 0, .int .i64 0, .int .i64 0] 26 (0, 0))) ∧ (w.heap.size ≤ s_) ∧ (w.heap.size ≤ s_) ∧ (gb218 ≠ s_) ∧ (s_ ≠ gb218) ∧ (Below w.heap.size w w')) ?_ ?_
                rotate_left
                ·intro hCont
                 refine two_ (i := 5) (j := 9) (Ni := some 36) (Nj := some 9) #[true, true, true, true, true, true, false, false, false, false, false, false] #[true, true, true, true, true, false, false, false, false, true, false, false] rfl rfl rfl rfl (two_of HT_.out (by kernel_rfl)) (by decide) (by decide) (fun K hK => ?_) (fun K hK => ?_)
                 ·skip
                  refine goes_ Try.func44 (by kernel_rfl) rfl #[.agg #[.int .i64 ((rd_T26 x5_2 x6_1).f0.f0), .int .i64 ((rd_T26 x5_2 x6_1).f0.f1), .int .i64 ((rd_T26 x5_2 x6_1).f1.f0), .int .i64 ((rd_T26 x5_2 x6_1).f1.f1)], .agg #[.int .i64 ((rd_T26 l0 x26_2).f0.f0), .int .i64 ((rd_T26 l0 x26_2).f0.f1), .int .i64 ((rd_T26 l0 x26_2).f1.f0), .int .i64 ((rd_T26 l0 x26_2).f1.f1)]] (by rfl) rfl rfl (by (try simp only [List.map_toArray, List.map_cons, List.map_nil]); first | done | rfl | (simp only [List.length_drop, List.length_take]; rfl)) ?_
                  with_reducible refine (impl_product.calls k2 ((rd_T26 x5_2 x6_1).f0.f0) ((rd_T26 x5_2 x6_1).f0.f1) ((rd_T26 x5_2 x6_1).f1.f0) ((rd_T26 x5_2 x6_1).f1.f1) ((rd_T26 l0 x26_2).f0.f0) ((rd_T26 l0 x26_2).f0.f1) ((rd_T26 l0 x26_2).f1.f0) ((rd_T26 l0 x26_2).f1.f1) t220 t221 t222 t223 true _ A16.out).mono ?_
                  rintro e w58 ⟨rfl, hb⟩
                  have HS4_ := (hb.cell (World.block_lt_of_cell? _ _ (hHeld.2.2.2.2.1))).trans (hHeld.2.2.2.2.1)
                  have HS5_ := (hb.cell (World.block_lt_of_cell? _ _ (hHeld.2.2.2.2.2.1))).trans (hHeld.2.2.2.2.2.1)
                  have HS6_ := (hb.cell (World.block_lt_of_cell? _ _ (hHeld.2.2.2.2.2.2.1))).trans (hHeld.2.2.2.2.2.2.1)
                  have HS7_ := (hb.cell (World.block_lt_of_cell? _ _ (hHeld.2.2.2.2.2.2.2))).trans (hHeld.2.2.2.2.2.2.2)
                  refine ⟨_, rfl, ?_⟩
                  have n0_ := Aside0.mk (Kd.R_below (by (with_reducible repeat (first | apply Kd.R_alloc | apply Kd.R_drewN | apply Kd.R_drew)); exact HO_5.out) hb)
                  have n1_ := Aside0.mk (blk_below (g := gb218) (o := .cells #[.int .i64 ((rd_T26 l0 x26_2).f0.f0), .int .i64 ((rd_T26 l0 x26_2).f0.f1), .int .i64 ((rd_T26 l0 x26_2).f1.f0), .int .i64 ((rd_T26 l0 x26_2).f1.f1)] 26 (0, 0)) (by (with_reducible repeat first | apply blk_drewN | apply blk_drew | apply blk_alloc); exact BK218.out) hb)
                  have n2_ := Aside0.mk (below_step (by repeat (first | (with_reducible first | exact HB.out | apply below_alloc | apply pw_below_drewN | apply below_drew1 | refine below_set ?_ GE218.out) | exact HB.out)) hb)
                  clear HO_5
                  clear BK218
                  clear HB
                  have HO_5 := n0_
                  have BK218 := n1_
                  have HB := n2_
                  clear n0_ n1_ n2_
                  (try clear hb)
                  (try clear hb2)
                  (try clear hk)
                  (try clear hi)
                  refine hK.out _ _ ⟨(blk_cell BK218.out 0).trans rfl, (blk_cell BK218.out 1).trans rfl, (blk_cell BK218.out 2).trans rfl, (blk_cell BK218.out 3).trans rfl, HS4_, HS5_, HS6_, HS7_⟩ (fun hHeld => ?_)
                  clear hK K
                  refine norm_ (a' := ?_) ?_ ?_
                  rotate_left
                  ·show Act.put _ (some 36) _ = _
                   simp only [Act.put, lstS, lstZ, lstC, i64_w, i32_w]
                   rfl
                  refine pure_ (i := 6) (N := some 30) (v := ?_) (a' := ?_) #[true, true, true, true, true, true, true, false, false, false, false, false] rfl rfl (any_of HT_.out (by kernel_rfl)) (fun _ _ _ h => h) (Or.inl ⟨by rfl, ?_⟩) ?_ ?_
                  rotate_left
                  ·intro w'
                   go_simp
                   with_reducible rfl
                  rotate_left
                  ·simp only [Act.put, lstS, lstZ, lstC, i64_w, i32_w]
                   rfl
                  refine pure_ (i := 7) (N := some 37) (v := ?_) (a' := ?_) #[true, true, true, true, true, true, true, true, false, false, false, false] rfl rfl (any_of HT_.out (by kernel_rfl)) (fun _ _ _ h => h) (Or.inl ⟨by rfl, ?_⟩) ?_ ?_
                  rotate_left
                  ·intro w'
                   go_simp
                   with_reducible rfl
                  rotate_left
                  ·simp only [Act.put, lstS, lstZ, lstC, i64_w, i32_w]
                   rfl
                  refine pure_ (i := 8) (N := some 38) (v := ?_) (a' := ?_) #[true, true, true, true, true, true, true, true, true, false, false, false] rfl rfl (any_of HT_.out (by kernel_rfl)) (fun _ _ _ h => h) (Or.inl ⟨by rfl, ?_⟩) ?_ ?_
                  rotate_left
                  ·intro w'
                   go_simp
                   with_reducible rfl
                  rotate_left
                  ·simp only [Act.put, lstS, lstZ, lstC, i64_w, i32_w]
                   rfl
                  refine one_ (i := 9) (N := some 9) #[true, true, true, true, true, true, true, true, true, true, false, false] rfl rfl (one_of HT_.out (by kernel_rfl)) (by decide) (fun K hK => ?_)
                  refine box_step ?hg (N := 9) ?hd (cs := #[.int .i64 0, .int .i64 0, .int .i64 0, .int .i64 0]) (t := 26) ?hr ?_; (case hd => rfl); (case hg => rfl); (case hr => first | (go_simp; done) | (go_simp; rfl))
                  intro gb225 hg w59 hbox hb
                  have HS4_ := (hb.cell (World.block_lt_of_cell? _ _ (hHeld.2.2.2.2.1))).trans (hHeld.2.2.2.2.1)
                  have HS5_ := (hb.cell (World.block_lt_of_cell? _ _ (hHeld.2.2.2.2.2.1))).trans (hHeld.2.2.2.2.2.1)
                  have HS6_ := (hb.cell (World.block_lt_of_cell? _ _ (hHeld.2.2.2.2.2.2.1))).trans (hHeld.2.2.2.2.2.2.1)
                  have HS7_ := (hb.cell (World.block_lt_of_cell? _ _ (hHeld.2.2.2.2.2.2.2))).trans (hHeld.2.2.2.2.2.2.2)
                  have n0_ := Aside0.mk (Kd.R_below (Kd.R_elderB (by (with_reducible repeat (first | apply Kd.R_alloc | apply Kd.R_drewN | apply Kd.R_drew)); exact HO_5.out) gb225 (Nat.le_of_eq hg.symm)) hb)
                  have n1_ := Aside0.mk (blk_below (g := gb218) (o := .cells #[.int .i64 ((rd_T26 l0 x26_2).f0.f0), .int .i64 ((rd_T26 l0 x26_2).f0.f1), .int .i64 ((rd_T26 l0 x26_2).f1.f0), .int .i64 ((rd_T26 l0 x26_2).f1.f1)] 26 (0, 0)) (by (with_reducible repeat first | apply blk_drewN | apply blk_drew | apply blk_alloc); exact BK218.out) hb)
                  have n2_ := Aside0.mk (below_step (by repeat (first | (with_reducible first | exact HB.out | apply below_alloc | apply pw_below_drewN | apply below_drew1 | refine below_set ?_ GE218.out) | exact HB.out)) hb)
                  have n3_ := Aside0.mk (hbox)
                  have n4_ := Aside0.mk ((by rw [hg]; exact (below_size (by repeat (first | (with_reducible first | exact HB.out | apply below_alloc | apply pw_below_drewN | apply below_drew1 | refine below_set ?_ GE218.out) | exact HB.out))) : w.heap.size ≤ gb225))
                  have n5_ := Aside0.mk ((by rw [hg]; exact (below_size (by repeat (first | (with_reducible first | exact HB.out | apply below_alloc | apply pw_below_drewN | apply below_drew1 | refine below_set ?_ GE218.out) | exact HB.out))) : w.heap.size ≤ gb225))
                  have n6_ := Aside0.mk ((by rw [hg]; exact Nat.ne_of_lt (blk_lt (g := gb218) (o := .cells #[.int .i64 ((rd_T26 l0 x26_2).f0.f0), .int .i64 ((rd_T26 l0 x26_2).f0.f1), .int .i64 ((rd_T26 l0 x26_2).f1.f0), .int .i64 ((rd_T26 l0 x26_2).f1.f1)] 26 (0, 0)) (by (with_reducible repeat first | apply blk_drewN | apply blk_drew | apply blk_alloc); exact BK218.out)) : gb218 ≠ gb225))
                  have n7_ := Aside0.mk ((by rw [hg]; exact Nat.ne_of_gt (blk_lt (g := gb218) (o := .cells #[.int .i64 ((rd_T26 l0 x26_2).f0.f0), .int .i64 ((rd_T26 l0 x26_2).f0.f1), .int .i64 ((rd_T26 l0 x26_2).f1.f0), .int .i64 ((rd_T26 l0 x26_2).f1.f1)] 26 (0, 0)) (by (with_reducible repeat first | apply blk_drewN | apply blk_drew | apply blk_alloc); exact BK218.out)) : gb225 ≠ gb218))
                  clear HO_5
                  clear BK218
                  clear HB
                  have HO_5 := n0_
                  have BK218 := n1_
                  have HB := n2_
                  have BK225 := n3_
                  have GW225 := n4_
                  have GE225 := n5_
                  have NB218_225 := n6_
                  have NB225_218 := n7_
                  clear n0_ n1_ n2_ n3_ n4_ n5_ n6_ n7_
                  clear hb hbox hg
                  refine hK.out _ _ ⟨(blk_cell BK218.out 0).trans rfl, (blk_cell BK218.out 1).trans rfl, (blk_cell BK218.out 2).trans rfl, (blk_cell BK218.out 3).trans rfl, HS4_, HS5_, HS6_, HS7_⟩ (fun hHeld => ?_)
                  clear hK K
                  refine norm_ (a' := ?_) ?_ ?_
                  rotate_left
                  ·show Act.put _ (some 9) _ = _
                   simp only [Act.put, lstS, lstZ, lstC, i64_w, i32_w]
                   rfl
                  exact norm_ (by simp only [putAll, Act.put, lstS, lstZ, lstC]) (hCont (gb225) _ ⟨hHeld, (by (with_reducible repeat (first | apply Kd.R_alloc | apply Kd.R_drewN | apply Kd.R_drew)); exact HO_5.out), (by (with_reducible repeat first | apply blk_drewN | apply blk_drew | apply blk_alloc); exact BK218.out), (by (with_reducible repeat first | apply blk_drewN | apply blk_drew | apply blk_alloc); exact BK225.out), GW225.out, GE225.out, NB218_225.out, NB225_218.out, (by repeat (first | (with_reducible first | exact HB.out | apply below_alloc | apply pw_below_drewN | apply below_drew1 | refine below_set ?_ GE218.out | refine below_set ?_ GE225.out) | exact HB.out))⟩)
                 ·skip
                  refine box_step ?hg (N := 9) ?hd (cs := #[.int .i64 0, .int .i64 0, .int .i64 0, .int .i64 0]) (t := 26) ?hr ?_; (case hd => rfl); (case hg => rfl); (case hr => first | (go_simp; done) | (go_simp; rfl))
                  intro gb225 hg w58 hbox hb
                  have HS4_ := (hb.cell (World.block_lt_of_cell? _ _ (hHeld.2.2.2.2.1))).trans (hHeld.2.2.2.2.1)
                  have HS5_ := (hb.cell (World.block_lt_of_cell? _ _ (hHeld.2.2.2.2.2.1))).trans (hHeld.2.2.2.2.2.1)
                  have HS6_ := (hb.cell (World.block_lt_of_cell? _ _ (hHeld.2.2.2.2.2.2.1))).trans (hHeld.2.2.2.2.2.2.1)
                  have HS7_ := (hb.cell (World.block_lt_of_cell? _ _ (hHeld.2.2.2.2.2.2.2))).trans (hHeld.2.2.2.2.2.2.2)
                  have n0_ := Aside0.mk (Kd.R_below (Kd.R_elderB (by (with_reducible repeat (first | apply Kd.R_alloc | apply Kd.R_drewN | apply Kd.R_drew)); exact HO_5.out) gb225 (Nat.le_of_eq hg.symm)) hb)
                  have n1_ := Aside0.mk (blk_below (g := gb218) (o := .cells #[.int .i64 ((rd_T26 l0 x26_2).f0.f0), .int .i64 ((rd_T26 l0 x26_2).f0.f1), .int .i64 ((rd_T26 l0 x26_2).f1.f0), .int .i64 ((rd_T26 l0 x26_2).f1.f1)] 26 (0, 0)) (by (with_reducible repeat first | apply blk_drewN | apply blk_drew | apply blk_alloc); exact BK218.out) hb)
                  have n2_ := Aside0.mk (below_step (by repeat (first | (with_reducible first | exact HB.out | apply below_alloc | apply pw_below_drewN | apply below_drew1 | refine below_set ?_ GE218.out) | exact HB.out)) hb)
                  have n3_ := Aside0.mk (hbox)
                  have n4_ := Aside0.mk ((by rw [hg]; exact (below_size (by repeat (first | (with_reducible first | exact HB.out | apply below_alloc | apply pw_below_drewN | apply below_drew1 | refine below_set ?_ GE218.out) | exact HB.out))) : w.heap.size ≤ gb225))
                  have n5_ := Aside0.mk ((by rw [hg]; exact (below_size (by repeat (first | (with_reducible first | exact HB.out | apply below_alloc | apply pw_below_drewN | apply below_drew1 | refine below_set ?_ GE218.out) | exact HB.out))) : w.heap.size ≤ gb225))
                  have n6_ := Aside0.mk ((by rw [hg]; exact Nat.ne_of_lt (blk_lt (g := gb218) (o := .cells #[.int .i64 ((rd_T26 l0 x26_2).f0.f0), .int .i64 ((rd_T26 l0 x26_2).f0.f1), .int .i64 ((rd_T26 l0 x26_2).f1.f0), .int .i64 ((rd_T26 l0 x26_2).f1.f1)] 26 (0, 0)) (by (with_reducible repeat first | apply blk_drewN | apply blk_drew | apply blk_alloc); exact BK218.out)) : gb218 ≠ gb225))
                  have n7_ := Aside0.mk ((by rw [hg]; exact Nat.ne_of_gt (blk_lt (g := gb218) (o := .cells #[.int .i64 ((rd_T26 l0 x26_2).f0.f0), .int .i64 ((rd_T26 l0 x26_2).f0.f1), .int .i64 ((rd_T26 l0 x26_2).f1.f0), .int .i64 ((rd_T26 l0 x26_2).f1.f1)] 26 (0, 0)) (by (with_reducible repeat first | apply blk_drewN | apply blk_drew | apply blk_alloc); exact BK218.out)) : gb225 ≠ gb218))
                  clear HO_5
                  clear BK218
                  clear HB
                  have HO_5 := n0_
                  have BK218 := n1_
                  have HB := n2_
                  have BK225 := n3_
                  have GW225 := n4_
                  have GE225 := n5_
                  have NB218_225 := n6_
                  have NB225_218 := n7_
                  clear n0_ n1_ n2_ n3_ n4_ n5_ n6_ n7_
                  clear hb hbox hg
                  refine hK.out _ _ ⟨(blk_cell BK218.out 0).trans rfl, (blk_cell BK218.out 1).trans rfl, (blk_cell BK218.out 2).trans rfl, (blk_cell BK218.out 3).trans rfl, HS4_, HS5_, HS6_, HS7_⟩ (fun hHeld => ?_)
                  clear hK K
                  refine norm_ (a' := ?_) ?_ ?_
                  rotate_left
                  ·show Act.put _ (some 9) _ = _
                   simp only [Act.put, lstS, lstZ, lstC, i64_w, i32_w]
                   rfl
                  refine one_ (i := 5) (N := some 36) #[true, true, true, true, true, true, false, false, false, true, false, false] rfl rfl (one_of HT_.out (by kernel_rfl)) (by decide) (fun K hK => ?_)
                  refine goes_ Try.func44 (by kernel_rfl) rfl #[.agg #[.int .i64 ((rd_T26 x5_2 x6_1).f0.f0), .int .i64 ((rd_T26 x5_2 x6_1).f0.f1), .int .i64 ((rd_T26 x5_2 x6_1).f1.f0), .int .i64 ((rd_T26 x5_2 x6_1).f1.f1)], .agg #[.int .i64 ((rd_T26 l0 x26_2).f0.f0), .int .i64 ((rd_T26 l0 x26_2).f0.f1), .int .i64 ((rd_T26 l0 x26_2).f1.f0), .int .i64 ((rd_T26 l0 x26_2).f1.f1)]] (by rfl) rfl rfl (by (try simp only [List.map_toArray, List.map_cons, List.map_nil]); first | done | rfl | (simp only [List.length_drop, List.length_take]; rfl)) ?_
                  with_reducible refine (impl_product.calls k2 ((rd_T26 x5_2 x6_1).f0.f0) ((rd_T26 x5_2 x6_1).f0.f1) ((rd_T26 x5_2 x6_1).f1.f0) ((rd_T26 x5_2 x6_1).f1.f1) ((rd_T26 l0 x26_2).f0.f0) ((rd_T26 l0 x26_2).f0.f1) ((rd_T26 l0 x26_2).f1.f0) ((rd_T26 l0 x26_2).f1.f1) t220 t221 t222 t223 true _ A16.out).mono ?_
                  rintro e w59 ⟨rfl, hb⟩
                  have HS4_ := (hb.cell (World.block_lt_of_cell? _ _ (hHeld.2.2.2.2.1))).trans (hHeld.2.2.2.2.1)
                  have HS5_ := (hb.cell (World.block_lt_of_cell? _ _ (hHeld.2.2.2.2.2.1))).trans (hHeld.2.2.2.2.2.1)
                  have HS6_ := (hb.cell (World.block_lt_of_cell? _ _ (hHeld.2.2.2.2.2.2.1))).trans (hHeld.2.2.2.2.2.2.1)
                  have HS7_ := (hb.cell (World.block_lt_of_cell? _ _ (hHeld.2.2.2.2.2.2.2))).trans (hHeld.2.2.2.2.2.2.2)
                  refine ⟨_, rfl, ?_⟩
                  have n0_ := Aside0.mk (Kd.R_below (by (with_reducible repeat (first | apply Kd.R_alloc | apply Kd.R_drewN | apply Kd.R_drew)); exact HO_5.out) hb)
                  have n1_ := Aside0.mk (blk_below (g := gb218) (o := .cells #[.int .i64 ((rd_T26 l0 x26_2).f0.f0), .int .i64 ((rd_T26 l0 x26_2).f0.f1), .int .i64 ((rd_T26 l0 x26_2).f1.f0), .int .i64 ((rd_T26 l0 x26_2).f1.f1)] 26 (0, 0)) (by (with_reducible repeat first | apply blk_drewN | apply blk_drew | apply blk_alloc); exact BK218.out) hb)
                  have n2_ := Aside0.mk (blk_below (g := gb225) (o := .cells #[.int .i64 0, .int .i64 0, .int .i64 0, .int .i64 0] 26 (0, 0)) (by (with_reducible repeat first | apply blk_drewN | apply blk_drew | apply blk_alloc); exact BK225.out) hb)
                  have n3_ := Aside0.mk (below_step (by repeat (first | (with_reducible first | exact HB.out | apply below_alloc | apply pw_below_drewN | apply below_drew1 | refine below_set ?_ GE218.out | refine below_set ?_ GE225.out) | exact HB.out)) hb)
                  clear HO_5
                  clear BK218
                  clear BK225
                  clear HB
                  have HO_5 := n0_
                  have BK218 := n1_
                  have BK225 := n2_
                  have HB := n3_
                  clear n0_ n1_ n2_ n3_
                  (try clear hb)
                  (try clear hb2)
                  (try clear hk)
                  (try clear hi)
                  refine hK.out _ _ ⟨(blk_cell BK218.out 0).trans rfl, (blk_cell BK218.out 1).trans rfl, (blk_cell BK218.out 2).trans rfl, (blk_cell BK218.out 3).trans rfl, HS4_, HS5_, HS6_, HS7_⟩ (fun hHeld => ?_)
                  clear hK K
                  refine norm_ (a' := ?_) ?_ ?_
                  rotate_left
                  ·show Act.put _ (some 36) _ = _
                   simp only [Act.put, lstS, lstZ, lstC, i64_w, i32_w]
                   rfl
                  refine pure_ (i := 6) (N := some 30) (v := ?_) (a' := ?_) #[true, true, true, true, true, true, true, false, false, true, false, false] rfl rfl (any_of HT_.out (by kernel_rfl)) (fun _ _ _ h => h) (Or.inl ⟨by rfl, ?_⟩) ?_ ?_
                  rotate_left
                  ·intro w'
                   go_simp
                   with_reducible rfl
                  rotate_left
                  ·simp only [Act.put, lstS, lstZ, lstC, i64_w, i32_w]
                   rfl
                  refine pure_ (i := 7) (N := some 37) (v := ?_) (a' := ?_) #[true, true, true, true, true, true, true, true, false, true, false, false] rfl rfl (any_of HT_.out (by kernel_rfl)) (fun _ _ _ h => h) (Or.inl ⟨by rfl, ?_⟩) ?_ ?_
                  rotate_left
                  ·intro w'
                   go_simp
                   with_reducible rfl
                  rotate_left
                  ·simp only [Act.put, lstS, lstZ, lstC, i64_w, i32_w]
                   rfl
                  refine pure_ (i := 8) (N := some 38) (v := ?_) (a' := ?_) #[true, true, true, true, true, true, true, true, true, true, false, false] rfl rfl (any_of HT_.out (by kernel_rfl)) (fun _ _ _ h => h) (Or.inl ⟨by rfl, ?_⟩) ?_ ?_
                  rotate_left
                  ·intro w'
                   go_simp
                   with_reducible rfl
                  rotate_left
                  ·simp only [Act.put, lstS, lstZ, lstC, i64_w, i32_w]
                   rfl
                  exact norm_ (by simp only [putAll, Act.put, lstS, lstZ, lstC]) (hCont (gb225) _ ⟨hHeld, (by (with_reducible repeat (first | apply Kd.R_alloc | apply Kd.R_drewN | apply Kd.R_drew)); exact HO_5.out), (by (with_reducible repeat first | apply blk_drewN | apply blk_drew | apply blk_alloc); exact BK218.out), (by (with_reducible repeat first | apply blk_drewN | apply blk_drew | apply blk_alloc); exact BK225.out), GW225.out, GE225.out, NB218_225.out, NB225_218.out, (by repeat (first | (with_reducible first | exact HB.out | apply below_alloc | apply pw_below_drewN | apply below_drew1 | refine below_set ?_ GE218.out | refine below_set ?_ GE225.out) | exact HB.out))⟩)
                rintro gb225 w60 ⟨hS_, h0_, h1_, h2_, h3_, h4_, h5_, h6_, h7_⟩
                have n0_ : Aside0 (Kd.R k26 26 w60 w.heap.size (fun k_ => k_ ≠ gb218 ∧ k_ ≠ gb225) (.slice (some ad219) x5_2.length co57) x5_2) := ⟨h0_⟩
                have n1_ : Aside0 (w60.heap[gb218]? = some (.cells #[.int .i64 ((rd_T26 l0 x26_2).f0.f0), .int .i64 ((rd_T26 l0 x26_2).f0.f1), .int .i64 ((rd_T26 l0 x26_2).f1.f0), .int .i64 ((rd_T26 l0 x26_2).f1.f1)] 26 (0, 0))) := ⟨h1_⟩
                have n2_ : Aside0 (w60.heap[gb225]? = some (.cells #[.int .i64 0, .int .i64 0, .int .i64 0, .int .i64 0] 26 (0, 0))) := ⟨h2_⟩
                have n3_ : Aside0 (w.heap.size ≤ gb225) := ⟨h3_⟩
                have n4_ : Aside0 (w.heap.size ≤ gb225) := ⟨h4_⟩
                have n5_ : Aside0 (gb218 ≠ gb225) := ⟨h5_⟩
                have n6_ : Aside0 (gb225 ≠ gb218) := ⟨h6_⟩
                have n7_ : Aside0 (Below w.heap.size w w60) := ⟨h7_⟩
                clear HO_5
                clear BK218
                clear HB
                clear h0_ h1_ h2_ h3_ h4_ h5_ h6_ h7_
                have HO_5 := n0_
                have BK218 := n1_
                have BK225 := n2_
                have GW225 := n3_
                have GE225 := n4_
                have NB218_225 := n5_
                have NB225_218 := n6_
                have HB := n7_
                clear n0_ n1_ n2_ n3_ n4_ n5_ n6_ n7_
                have hHeld : w60.cell? ⟨gb218, 0, none⟩ = some (.int .i64 ((rd_T26 l0 x26_2).f0.f0)) ∧ w60.cell? ⟨gb218, 1, none⟩ = some (.int .i64 ((rd_T26 l0 x26_2).f0.f1)) ∧ w60.cell? ⟨gb218, 2, none⟩ = some (.int .i64 ((rd_T26 l0 x26_2).f1.f0)) ∧ w60.cell? ⟨gb218, 3, none⟩ = some (.int .i64 ((rd_T26 l0 x26_2).f1.f1)) ∧ w60.cell? (ad219.add ((x6_1).toNat * 4)) = some (.int .i64 ((rd_T26 x5_2 x6_1).f0.f0)) ∧ w60.cell? ⟨(ad219.add ((x6_1).toNat * 4)).block, (ad219.add ((x6_1).toNat * 4)).off + 1, none⟩ = some (.int .i64 ((rd_T26 x5_2 x6_1).f0.f1)) ∧ w60.cell? ⟨(ad219.add ((x6_1).toNat * 4)).block, (ad219.add ((x6_1).toNat * 4)).off + 2, none⟩ = some (.int .i64 ((rd_T26 x5_2 x6_1).f1.f0)) ∧ w60.cell? ⟨(ad219.add ((x6_1).toNat * 4)).block, (ad219.add ((x6_1).toNat * 4)).off + 3, none⟩ = some (.int .i64 ((rd_T26 x5_2 x6_1).f1.f1)) := hS_
                refine norm_ (a' := ?_) ?_ ?_
                rotate_left
                ·simp only [putAll, Act.put, lstS, lstZ, lstC]
                 rfl
                refine one_ (i := 10) (N := none) #[true, true, true, true, true, true, true, true, true, true, true, false] rfl rfl (one_of HT_.out (by kernel_rfl)) (by decide) (fun K hK => ?_)
                have hs61 : w60.cell? ⟨gb225, 0, none⟩ = some (.int .i64 0) := (blk_cell BK225.out 0).trans rfl
                have hfs61 := blk_frozen BK225.out 0
                have hns61_0 := NB218_225.out
                have hms61_0 := NB225_218.out
                have hs62 : w60.cell? ⟨gb225, 1, none⟩ = some (.int .i64 0) := (blk_cell BK225.out 1).trans rfl
                have hfs62 := blk_frozen BK225.out 1
                have hns62_0 := NB218_225.out
                have hms62_0 := NB225_218.out
                have hs63 : w60.cell? ⟨gb225, 2, none⟩ = some (.int .i64 0) := (blk_cell BK225.out 2).trans rfl
                have hfs63 := blk_frozen BK225.out 2
                have hns63_0 := NB218_225.out
                have hms63_0 := NB225_218.out
                have hs64 : w60.cell? ⟨gb225, 3, none⟩ = some (.int .i64 0) := (blk_cell BK225.out 3).trans rfl
                have hfs64 := blk_frozen BK225.out 3
                have hns64_0 := NB218_225.out
                have hms64_0 := NB225_218.out
                refine skip_ (w1 := ?_) (by rfl) rfl ?_ ?_
                rotate_left
                ·go_simp
                 rfl
                refine hK.out _ _ ⟨((cell_far (p := ⟨gb225, _, none⟩) NB218_225.out _).trans (((cell_far (p := ⟨gb225, _, none⟩) NB218_225.out _).trans (((cell_far (p := ⟨gb225, _, none⟩) NB218_225.out _).trans (((cell_far (p := ⟨gb225, _, none⟩) NB218_225.out _).trans (hHeld.1)))))))), ((cell_far (p := ⟨gb225, _, none⟩) NB218_225.out _).trans (((cell_far (p := ⟨gb225, _, none⟩) NB218_225.out _).trans (((cell_far (p := ⟨gb225, _, none⟩) NB218_225.out _).trans (((cell_far (p := ⟨gb225, _, none⟩) NB218_225.out _).trans (hHeld.2.1)))))))), ((cell_far (p := ⟨gb225, _, none⟩) NB218_225.out _).trans (((cell_far (p := ⟨gb225, _, none⟩) NB218_225.out _).trans (((cell_far (p := ⟨gb225, _, none⟩) NB218_225.out _).trans (((cell_far (p := ⟨gb225, _, none⟩) NB218_225.out _).trans (hHeld.2.2.1)))))))), ((cell_far (p := ⟨gb225, _, none⟩) NB218_225.out _).trans (((cell_far (p := ⟨gb225, _, none⟩) NB218_225.out _).trans (((cell_far (p := ⟨gb225, _, none⟩) NB218_225.out _).trans (((cell_far (p := ⟨gb225, _, none⟩) NB218_225.out _).trans (hHeld.2.2.2.1)))))))), ((cell_far (p := ⟨gb225, _, none⟩) (by first | exact Kd.own_blk (Kd.R_away HO_5.out (fun _ hk => hk.2)) | (rw [add_block]; exact Kd.own_blk (Kd.R_away HO_5.out (fun _ hk => hk.2))) | (show (Addr.add _ _).block ≠ _; rw [add_block]; exact Kd.own_blk (Kd.R_away HO_5.out (fun _ hk => hk.2))) | (dsimp only; exact Kd.own_blk (Kd.R_away HO_5.out (fun _ hk => hk.2)))) _).trans (((cell_far (p := ⟨gb225, _, none⟩) (by first | exact Kd.own_blk (Kd.R_away HO_5.out (fun _ hk => hk.2)) | (rw [add_block]; exact Kd.own_blk (Kd.R_away HO_5.out (fun _ hk => hk.2))) | (show (Addr.add _ _).block ≠ _; rw [add_block]; exact Kd.own_blk (Kd.R_away HO_5.out (fun _ hk => hk.2))) | (dsimp only; exact Kd.own_blk (Kd.R_away HO_5.out (fun _ hk => hk.2)))) _).trans (((cell_far (p := ⟨gb225, _, none⟩) (by first | exact Kd.own_blk (Kd.R_away HO_5.out (fun _ hk => hk.2)) | (rw [add_block]; exact Kd.own_blk (Kd.R_away HO_5.out (fun _ hk => hk.2))) | (show (Addr.add _ _).block ≠ _; rw [add_block]; exact Kd.own_blk (Kd.R_away HO_5.out (fun _ hk => hk.2))) | (dsimp only; exact Kd.own_blk (Kd.R_away HO_5.out (fun _ hk => hk.2)))) _).trans (((cell_far (p := ⟨gb225, _, none⟩) (by first | exact Kd.own_blk (Kd.R_away HO_5.out (fun _ hk => hk.2)) | (rw [add_block]; exact Kd.own_blk (Kd.R_away HO_5.out (fun _ hk => hk.2))) | (show (Addr.add _ _).block ≠ _; rw [add_block]; exact Kd.own_blk (Kd.R_away HO_5.out (fun _ hk => hk.2))) | (dsimp only; exact Kd.own_blk (Kd.R_away HO_5.out (fun _ hk => hk.2)))) _).trans (hHeld.2.2.2.2.1)))))))), ((cell_far (p := ⟨gb225, _, none⟩) (by first | exact Kd.own_blk (Kd.R_away HO_5.out (fun _ hk => hk.2)) | (rw [add_block]; exact Kd.own_blk (Kd.R_away HO_5.out (fun _ hk => hk.2))) | (show (Addr.add _ _).block ≠ _; rw [add_block]; exact Kd.own_blk (Kd.R_away HO_5.out (fun _ hk => hk.2))) | (dsimp only; exact Kd.own_blk (Kd.R_away HO_5.out (fun _ hk => hk.2)))) _).trans (((cell_far (p := ⟨gb225, _, none⟩) (by first | exact Kd.own_blk (Kd.R_away HO_5.out (fun _ hk => hk.2)) | (rw [add_block]; exact Kd.own_blk (Kd.R_away HO_5.out (fun _ hk => hk.2))) | (show (Addr.add _ _).block ≠ _; rw [add_block]; exact Kd.own_blk (Kd.R_away HO_5.out (fun _ hk => hk.2))) | (dsimp only; exact Kd.own_blk (Kd.R_away HO_5.out (fun _ hk => hk.2)))) _).trans (((cell_far (p := ⟨gb225, _, none⟩) (by first | exact Kd.own_blk (Kd.R_away HO_5.out (fun _ hk => hk.2)) | (rw [add_block]; exact Kd.own_blk (Kd.R_away HO_5.out (fun _ hk => hk.2))) | (show (Addr.add _ _).block ≠ _; rw [add_block]; exact Kd.own_blk (Kd.R_away HO_5.out (fun _ hk => hk.2))) | (dsimp only; exact Kd.own_blk (Kd.R_away HO_5.out (fun _ hk => hk.2)))) _).trans (((cell_far (p := ⟨gb225, _, none⟩) (by first | exact Kd.own_blk (Kd.R_away HO_5.out (fun _ hk => hk.2)) | (rw [add_block]; exact Kd.own_blk (Kd.R_away HO_5.out (fun _ hk => hk.2))) | (show (Addr.add _ _).block ≠ _; rw [add_block]; exact Kd.own_blk (Kd.R_away HO_5.out (fun _ hk => hk.2))) | (dsimp only; exact Kd.own_blk (Kd.R_away HO_5.out (fun _ hk => hk.2)))) _).trans (hHeld.2.2.2.2.2.1)))))))), ((cell_far (p := ⟨gb225, _, none⟩) (by first | exact Kd.own_blk (Kd.R_away HO_5.out (fun _ hk => hk.2)) | (rw [add_block]; exact Kd.own_blk (Kd.R_away HO_5.out (fun _ hk => hk.2))) | (show (Addr.add _ _).block ≠ _; rw [add_block]; exact Kd.own_blk (Kd.R_away HO_5.out (fun _ hk => hk.2))) | (dsimp only; exact Kd.own_blk (Kd.R_away HO_5.out (fun _ hk => hk.2)))) _).trans (((cell_far (p := ⟨gb225, _, none⟩) (by first | exact Kd.own_blk (Kd.R_away HO_5.out (fun _ hk => hk.2)) | (rw [add_block]; exact Kd.own_blk (Kd.R_away HO_5.out (fun _ hk => hk.2))) | (show (Addr.add _ _).block ≠ _; rw [add_block]; exact Kd.own_blk (Kd.R_away HO_5.out (fun _ hk => hk.2))) | (dsimp only; exact Kd.own_blk (Kd.R_away HO_5.out (fun _ hk => hk.2)))) _).trans (((cell_far (p := ⟨gb225, _, none⟩) (by first | exact Kd.own_blk (Kd.R_away HO_5.out (fun _ hk => hk.2)) | (rw [add_block]; exact Kd.own_blk (Kd.R_away HO_5.out (fun _ hk => hk.2))) | (show (Addr.add _ _).block ≠ _; rw [add_block]; exact Kd.own_blk (Kd.R_away HO_5.out (fun _ hk => hk.2))) | (dsimp only; exact Kd.own_blk (Kd.R_away HO_5.out (fun _ hk => hk.2)))) _).trans (((cell_far (p := ⟨gb225, _, none⟩) (by first | exact Kd.own_blk (Kd.R_away HO_5.out (fun _ hk => hk.2)) | (rw [add_block]; exact Kd.own_blk (Kd.R_away HO_5.out (fun _ hk => hk.2))) | (show (Addr.add _ _).block ≠ _; rw [add_block]; exact Kd.own_blk (Kd.R_away HO_5.out (fun _ hk => hk.2))) | (dsimp only; exact Kd.own_blk (Kd.R_away HO_5.out (fun _ hk => hk.2)))) _).trans (hHeld.2.2.2.2.2.2.1)))))))), ((cell_far (p := ⟨gb225, _, none⟩) (by first | exact Kd.own_blk (Kd.R_away HO_5.out (fun _ hk => hk.2)) | (rw [add_block]; exact Kd.own_blk (Kd.R_away HO_5.out (fun _ hk => hk.2))) | (show (Addr.add _ _).block ≠ _; rw [add_block]; exact Kd.own_blk (Kd.R_away HO_5.out (fun _ hk => hk.2))) | (dsimp only; exact Kd.own_blk (Kd.R_away HO_5.out (fun _ hk => hk.2)))) _).trans (((cell_far (p := ⟨gb225, _, none⟩) (by first | exact Kd.own_blk (Kd.R_away HO_5.out (fun _ hk => hk.2)) | (rw [add_block]; exact Kd.own_blk (Kd.R_away HO_5.out (fun _ hk => hk.2))) | (show (Addr.add _ _).block ≠ _; rw [add_block]; exact Kd.own_blk (Kd.R_away HO_5.out (fun _ hk => hk.2))) | (dsimp only; exact Kd.own_blk (Kd.R_away HO_5.out (fun _ hk => hk.2)))) _).trans (((cell_far (p := ⟨gb225, _, none⟩) (by first | exact Kd.own_blk (Kd.R_away HO_5.out (fun _ hk => hk.2)) | (rw [add_block]; exact Kd.own_blk (Kd.R_away HO_5.out (fun _ hk => hk.2))) | (show (Addr.add _ _).block ≠ _; rw [add_block]; exact Kd.own_blk (Kd.R_away HO_5.out (fun _ hk => hk.2))) | (dsimp only; exact Kd.own_blk (Kd.R_away HO_5.out (fun _ hk => hk.2)))) _).trans (((cell_far (p := ⟨gb225, _, none⟩) (by first | exact Kd.own_blk (Kd.R_away HO_5.out (fun _ hk => hk.2)) | (rw [add_block]; exact Kd.own_blk (Kd.R_away HO_5.out (fun _ hk => hk.2))) | (show (Addr.add _ _).block ≠ _; rw [add_block]; exact Kd.own_blk (Kd.R_away HO_5.out (fun _ hk => hk.2))) | (dsimp only; exact Kd.own_blk (Kd.R_away HO_5.out (fun _ hk => hk.2)))) _).trans (hHeld.2.2.2.2.2.2.2))))))))⟩ (fun hHeld => ?_)
                clear hK K
                refine pure_ (i := 11) (N := some 10) (v := ?_) (a' := ?_) #[true, true, true, true, true, true, true, true, true, true, true, true] rfl rfl (any_of HT_.out (by kernel_rfl)) (fun _ _ _ h => h) (Or.inl ⟨by rfl, ?_⟩) ?_ ?_
                rotate_left
                ·intro w'
                 go_simp
                 with_reducible rfl
                rotate_left
                ·simp only [Act.put, lstS, lstZ, lstC, i64_w, i32_w]
                 rfl
                refine done_ (done_of HT_.out (by kernel_rfl)) ?_
                have hnb65 := NB225_218.out
                have hnc65 := NB218_225.out
                have hcz66_0 : w60.cell? ⟨gb225, 0, none⟩ = some (.int .i64 0) := (blk_cell BK225.out 0).trans rfl
                have hcz66_1 : w60.cell? ⟨gb225, 1, none⟩ = some (.int .i64 0) := (blk_cell BK225.out 1).trans rfl
                have hcz66_2 : w60.cell? ⟨gb225, 2, none⟩ = some (.int .i64 0) := (blk_cell BK225.out 2).trans rfl
                have hcz66_3 : w60.cell? ⟨gb225, 3, none⟩ = some (.int .i64 0) := (blk_cell BK225.out 3).trans rfl
                have hfz66_0 := blk_frozen BK225.out 0
                have hfz66_1 := blk_frozen BK225.out 1
                have hfz66_2 := blk_frozen BK225.out 2
                have hfz66_3 := blk_frozen BK225.out 3
                try go_wp2_with (first | ((with_reducible refine gate_callee (f := 51) rfl ?_); refine goesL_ (some 43) rfl rfl Try.func51 (by kernel_rfl) rfl #[.slice (some ad219) x5_2.length co57, .agg #[.int .i64 t220, .int .i64 t221, .int .i64 t222, .int .i64 t223]] rfl (by (try simp only [List.map_toArray, List.map_cons, List.map_nil]); first | done | rfl | (simp only [List.length_drop, List.length_take]; rfl)) ?_; (with_reducible refine (impl_Matrix_51.calls k2 _ _ x5_2 t220 t221 t222 t223 false _ ?side1 ?side2 A18.out).mono ?_); (case side1 => refine (Kd.R_reads' (e := 26) (base := w.heap.size) (ok := fun k_ => (k_ ≠ gb218 ∧ k_ ≠ gb225)) (n := x5_2.length) (c := co57) ?_).2.2; exact (by (with_reducible repeat (first | apply Kd.R_alloc | apply Kd.R_drewN | apply Kd.R_drew)); exact (Kd.R_mono (Kd.R_far (p := ⟨gb225, 3, none⟩) (Kd.R_far (p := ⟨gb225, 2, none⟩) (Kd.R_far (p := ⟨gb225, 1, none⟩) (Kd.R_far (p := ⟨gb225, 0, none⟩) (Kd.R_mono HO_5.out (fun k_ hk => (⟨hk, hk.2⟩ : _ ∧ k_ ≠ gb225))) (fun _ hk => hk.2) (.int .i64 t220)) (fun _ hk => hk.2) (.int .i64 t221)) (fun _ hk => hk.2) (.int .i64 t222)) (fun _ hk => hk.2) (.int .i64 t223)) (fun _ h_ => h_.1)))); (case side2 => exact (Kd.R_reads' HO_5.out).2.1); rintro e w67 ⟨rfl, hb⟩; refine ⟨_, rfl, ?_⟩; have n0_ := Aside0.mk (Kd.R_below (by (with_reducible repeat (first | apply Kd.R_alloc | apply Kd.R_drewN | apply Kd.R_drew)); exact (Kd.R_mono (Kd.R_far (p := ⟨gb225, 3, none⟩) (Kd.R_far (p := ⟨gb225, 2, none⟩) (Kd.R_far (p := ⟨gb225, 1, none⟩) (Kd.R_far (p := ⟨gb225, 0, none⟩) (Kd.R_mono HO_5.out (fun k_ hk => (⟨hk, hk.2⟩ : _ ∧ k_ ≠ gb225))) (fun _ hk => hk.2) (.int .i64 t220)) (fun _ hk => hk.2) (.int .i64 t221)) (fun _ hk => hk.2) (.int .i64 t222)) (fun _ hk => hk.2) (.int .i64 t223)) (fun _ h_ => h_.1))) hb); have n1_ := Aside0.mk (blk_below (g := gb218) (o := .cells #[.int .i64 ((rd_T26 l0 x26_2).f0.f0), .int .i64 ((rd_T26 l0 x26_2).f0.f1), .int .i64 ((rd_T26 l0 x26_2).f1.f0), .int .i64 ((rd_T26 l0 x26_2).f1.f1)] 26 (0, 0)) (by (with_reducible repeat first | apply blk_drewN | apply blk_drew | apply blk_alloc); refine blk_far ?_ NB218_225.out _; (with_reducible repeat first | apply blk_drewN | apply blk_drew | apply blk_alloc); refine blk_far ?_ NB218_225.out _; (with_reducible repeat first | apply blk_drewN | apply blk_drew | apply blk_alloc); refine blk_far ?_ NB218_225.out _; (with_reducible repeat first | apply blk_drewN | apply blk_drew | apply blk_alloc); refine blk_far ?_ NB218_225.out _; (with_reducible repeat first | apply blk_drewN | apply blk_drew | apply blk_alloc); exact BK218.out) hb); have n2_ := Aside0.mk (blk_below (g := gb225) (o := .cells #[.int .i64 t220, .int .i64 t221, .int .i64 t222, .int .i64 t223] 26 (0, 0)) (by (with_reducible repeat first | apply blk_drewN | apply blk_drew | apply blk_alloc); refine blk_put (cs := #[.int .i64 t220, .int .i64 t221, .int .i64 t222, .int .i64 0]) ?_ 3 _ rfl; (with_reducible repeat first | apply blk_drewN | apply blk_drew | apply blk_alloc); refine blk_put (cs := #[.int .i64 t220, .int .i64 t221, .int .i64 0, .int .i64 0]) ?_ 2 _ rfl; (with_reducible repeat first | apply blk_drewN | apply blk_drew | apply blk_alloc); refine blk_put (cs := #[.int .i64 t220, .int .i64 0, .int .i64 0, .int .i64 0]) ?_ 1 _ rfl; (with_reducible repeat first | apply blk_drewN | apply blk_drew | apply blk_alloc); refine blk_put (cs := #[.int .i64 0, .int .i64 0, .int .i64 0, .int .i64 0]) ?_ 0 _ rfl; (with_reducible repeat first | apply blk_drewN | apply blk_drew | apply blk_alloc); exact BK225.out) hb); have n3_ := Aside0.mk (below_step (by repeat (first | (with_reducible first | exact HB.out | apply below_alloc | apply pw_below_drewN | apply below_drew1 | refine below_set ?_ GE218.out | refine below_set ?_ GE225.out) | exact HB.out)) hb); clear HO_5; clear BK218; clear BK225; clear HB; have HO_5 := n0_; have BK218 := n1_; have BK225 := n2_; have HB := n3_; clear n0_ n1_ n2_ n3_; (try clear hb); (try clear hb2); (try clear hk); (try clear hi); have hcz68_0 : w67.cell? ⟨gb225, 0, none⟩ = some (.int .i64 t220) := (blk_cell BK225.out 0).trans rfl; have hcz68_1 : w67.cell? ⟨gb225, 1, none⟩ = some (.int .i64 t221) := (blk_cell BK225.out 1).trans rfl; have hcz68_2 : w67.cell? ⟨gb225, 2, none⟩ = some (.int .i64 t222) := (blk_cell BK225.out 2).trans rfl; have hcz68_3 : w67.cell? ⟨gb225, 3, none⟩ = some (.int .i64 t223) := (blk_cell BK225.out 3).trans rfl; have hfz68_0 := blk_frozen BK225.out 0; have hfz68_1 := blk_frozen BK225.out 1; have hfz68_2 := blk_frozen BK225.out 2; have hfz68_3 := blk_frozen BK225.out 3) | ((with_reducible refine gate_builtin (b := .append) (xs := #[.tmp 45, .tmp 47]) rfl ?_); at_builtin; refine Kd.R_append k26 (w0 := w) w.heap.size rfl (.tmp 45) (.tmp 47) 39 26 (.agg #[(.int .i64 0), (.int .i64 0), (.int .i64 0), (.int .i64 0)]) 32 rfl Try.underlying39 info26 rfl (by decide) (by omega) (.slice (some ad219) x5_2.length co57) x5_2 (⟨(⟨t220, t221⟩ : S22), (⟨t222, t223⟩ : S22)⟩ : S26) [.int .i64 t220, .int .i64 t221, .int .i64 t222, .int .i64 t223] (fun k_ => k_ ≠ gb218 ∧ k_ ≠ gb225) (fun _ => False) rfl rfl ?aP (fun _ hk => hk.elim) ?aF ?aO ?aB ?aS ?aL ?_; (case aP => exact k26_mkM _ _ _ (⟨(⟨t220, t221⟩ : S22), (⟨t222, t223⟩ : S22)⟩ : S26)); (case aB => exact (by repeat (first | (with_reducible first | exact HB.out | apply below_alloc | apply pw_below_drewN | apply below_drew1 | refine below_set ?_ GE218.out | refine below_set ?_ GE225.out) | exact HB.out))); (case aF => exact (fun k_ hk => ⟨Kd.freshB (g := gb218) (o := .cells #[.int .i64 ((rd_T26 l0 x26_2).f0.f0), .int .i64 ((rd_T26 l0 x26_2).f0.f1), .int .i64 ((rd_T26 l0 x26_2).f1.f0), .int .i64 ((rd_T26 l0 x26_2).f1.f1)] 26 (0, 0)) (by (with_reducible repeat first | apply blk_drewN | apply blk_drew | apply blk_alloc); exact BK218.out) k_ hk, Kd.freshB (g := gb225) (o := .cells #[.int .i64 t220, .int .i64 t221, .int .i64 t222, .int .i64 t223] 26 (0, 0)) (by (with_reducible repeat first | apply blk_drewN | apply blk_drew | apply blk_alloc); exact BK225.out) k_ hk⟩)); (case aO => exact (by (with_reducible repeat (first | apply Kd.R_alloc | apply Kd.R_drewN | apply Kd.R_drew)); exact HO_5.out)); (case aS => exact (below_size (by repeat (first | (with_reducible first | exact HB.out | apply below_alloc | apply pw_below_drewN | apply below_drew1 | refine below_set ?_ GE218.out | refine below_set ?_ GE225.out) | exact HB.out)))); (case aL => have := LMc51.out; omega); intro v228 w69 ho hb hg hat; rw [← Ny227.out] at ho; have n0_ := Aside0.mk (blk_grown (g := gb218) (o := .cells #[.int .i64 ((rd_T26 l0 x26_2).f0.f0), .int .i64 ((rd_T26 l0 x26_2).f0.f1), .int .i64 ((rd_T26 l0 x26_2).f1.f0), .int .i64 ((rd_T26 l0 x26_2).f1.f1)] 26 (0, 0)) (by (with_reducible repeat first | apply blk_drewN | apply blk_drew | apply blk_alloc); exact BK218.out) hg (Kd.R_away HO_5.out (fun _ hk => hk.1))); have n1_ := Aside0.mk (blk_grown (g := gb225) (o := .cells #[.int .i64 t220, .int .i64 t221, .int .i64 t222, .int .i64 t223] 26 (0, 0)) (by (with_reducible repeat first | apply blk_drewN | apply blk_drew | apply blk_alloc); exact BK225.out) hg (Kd.R_away HO_5.out (fun _ hk => hk.2))); have n2_ := Aside0.mk (hb); have n3_ := Aside0.mk (ho); clear BK218; clear BK225; clear HB; clear HO_5; have BK218 := n0_; have BK225 := n1_; have HB := n2_; have HO229 := n3_; clear n0_ n1_ n2_ n3_; clear ho hb hg hat; obtain ⟨Ao70, co70, eo70⟩ := Kd.R_slice HO229.out; subst eo70))
                go_ret2
                exact ⟨_, by first | rfl | (simp [errW_none, errW_some] <;> rfl) | (simp [*, errW_none, errW_some] <;> rfl), by first | exact Kd.R_nil _ _ _ _ _ | exact Kd.N_nil _ _ _ _ _ | exact Kd.V_nil _ _ _ _ _ | exact Kd.Q_nil _ _ _ _ _ | exact Kd.S_nil _ _ _ _ _, by repeat (first | (with_reducible first | exact HB.out | apply below_alloc | apply pw_below_drewN | apply below_drew1 | refine below_set ?_ GE218.out | refine below_set ?_ GE225.out) | exact HB.out)⟩
               ·rw [if_neg c52] at H
                have c52b0 : decide (48 < (y227.length : Int)) = false := decide_eq_false c52
                have c52b1 : decide (48 < y227.length) = false := decide_eq_false (by omega)
                clear c52
                have H' := Aside0.mk H
                clear H
                have p217 : 0 ≤ (x26_2 : Int) := of_decide_eq_true (by first | (with_reducible assumption) | assumption)
                have q217 : x26_2 < (l0.length : Int) := of_decide_eq_true (by first | (with_reducible assumption) | assumption)
                obtain ⟨ad217, e217, hx217_0, hx217_1, hx217_2, hx217_3⟩ := at_T26 HR0.out x26_2 p217 q217
                cases e217
                replace hx217_0 := clTr HB.out hx217_0
                replace hx217_1 := clTr HB.out hx217_1
                replace hx217_2 := clTr HB.out hx217_2
                replace hx217_3 := clTr HB.out hx217_3
                replace p217 := eq_true p217
                replace q217 := eq_true q217
                try go_wp2_with (first | ((with_reducible refine gate_dst (N := 8) rfl ?_); refine box_event ?hg (N := 8) ?hd (cs := #[.int .i64 0, .int .i64 0, .int .i64 0, .int .i64 0]) (t := 26) ?hr ?_; (case hd => rfl); (case hg => rfl); (case hr => first | (go_simp; done) | (go_simp; rfl)); intro gb218 hg w71 hbox hb; have n0_ := Aside0.mk (Kd.R_below (Kd.R_elderB (by (with_reducible repeat (first | apply Kd.R_alloc | apply Kd.R_drewN | apply Kd.R_drew)); exact HO_5.out) gb218 (Nat.le_of_eq hg.symm)) hb); have n1_ := Aside0.mk (below_step (by repeat (first | (with_reducible first | exact HB.out | apply below_alloc | apply pw_below_drewN | apply below_drew1) | exact HB.out)) hb); have n2_ := Aside0.mk (hbox); have n3_ := Aside0.mk ((by rw [hg]; exact (below_size (by repeat (first | (with_reducible first | exact HB.out | apply below_alloc | apply pw_below_drewN | apply below_drew1) | exact HB.out))) : w.heap.size ≤ gb218)); have n4_ := Aside0.mk ((by rw [hg]; exact (below_size (by repeat (first | (with_reducible first | exact HB.out | apply below_alloc | apply pw_below_drewN | apply below_drew1) | exact HB.out))) : w.heap.size ≤ gb218)); clear HO_5; clear HB; have HO_5 := n0_; have HB := n1_; have BK218 := n2_; have GW218 := n3_; have GE218 := n4_; clear n0_ n1_ n2_ n3_ n4_; clear hb hbox hg; have hcz72_0 : w71.cell? ⟨gb218, 0, none⟩ = some (.int .i64 0) := (blk_cell BK218.out 0).trans rfl; have hcz72_1 : w71.cell? ⟨gb218, 1, none⟩ = some (.int .i64 0) := (blk_cell BK218.out 1).trans rfl; have hcz72_2 : w71.cell? ⟨gb218, 2, none⟩ = some (.int .i64 0) := (blk_cell BK218.out 2).trans rfl; have hcz72_3 : w71.cell? ⟨gb218, 3, none⟩ = some (.int .i64 0) := (blk_cell BK218.out 3).trans rfl; have hfz72_0 := blk_frozen BK218.out 0; have hfz72_1 := blk_frozen BK218.out 1; have hfz72_2 := blk_frozen BK218.out 2; have hfz72_3 := blk_frozen BK218.out 3))
                have n0_ : Aside0 (Kd.R k26 26 ((((w71.setCell ⟨gb218, 0, none⟩ (.int .i64 ((rd_T26 l0 x26_2).f0.f0))).setCell ⟨gb218, 1, none⟩ (.int .i64 ((rd_T26 l0 x26_2).f0.f1))).setCell ⟨gb218, 2, none⟩ (.int .i64 ((rd_T26 l0 x26_2).f1.f0))).setCell ⟨gb218, 3, none⟩ (.int .i64 ((rd_T26 l0 x26_2).f1.f1))) w.heap.size (fun k_ => k_ ≠ gb218) u5 x5_2) := ⟨by (with_reducible repeat (first | apply Kd.R_alloc | apply Kd.R_drewN | apply Kd.R_drew)); exact Kd.R_mono (Kd.R_far (p := ⟨gb218, 3, none⟩) (Kd.R_far (p := ⟨gb218, 2, none⟩) (Kd.R_far (p := ⟨gb218, 1, none⟩) (Kd.R_far (p := ⟨gb218, 0, none⟩) (Kd.R_mono HO_5.out (fun k_ hk => (⟨hk, hk.2⟩ : _ ∧ k_ ≠ gb218))) (fun _ hk => hk.2) (.int .i64 ((rd_T26 l0 x26_2).f0.f0))) (fun _ hk => hk.2) (.int .i64 ((rd_T26 l0 x26_2).f0.f1))) (fun _ hk => hk.2) (.int .i64 ((rd_T26 l0 x26_2).f1.f0))) (fun _ hk => hk.2) (.int .i64 ((rd_T26 l0 x26_2).f1.f1))) (fun _ hk => hk.1.2)⟩
                have n1_ : Aside0 (((((w71.setCell ⟨gb218, 0, none⟩ (.int .i64 ((rd_T26 l0 x26_2).f0.f0))).setCell ⟨gb218, 1, none⟩ (.int .i64 ((rd_T26 l0 x26_2).f0.f1))).setCell ⟨gb218, 2, none⟩ (.int .i64 ((rd_T26 l0 x26_2).f1.f0))).setCell ⟨gb218, 3, none⟩ (.int .i64 ((rd_T26 l0 x26_2).f1.f1))).heap[gb218]? = some (.cells #[.int .i64 ((rd_T26 l0 x26_2).f0.f0), .int .i64 ((rd_T26 l0 x26_2).f0.f1), .int .i64 ((rd_T26 l0 x26_2).f1.f0), .int .i64 ((rd_T26 l0 x26_2).f1.f1)] 26 (0, 0))) := ⟨by (with_reducible repeat first | apply blk_drewN | apply blk_drew | apply blk_alloc); refine blk_put (cs := #[.int .i64 ((rd_T26 l0 x26_2).f0.f0), .int .i64 ((rd_T26 l0 x26_2).f0.f1), .int .i64 ((rd_T26 l0 x26_2).f1.f0), .int .i64 0]) ?_ 3 _ rfl; (with_reducible repeat first | apply blk_drewN | apply blk_drew | apply blk_alloc); refine blk_put (cs := #[.int .i64 ((rd_T26 l0 x26_2).f0.f0), .int .i64 ((rd_T26 l0 x26_2).f0.f1), .int .i64 0, .int .i64 0]) ?_ 2 _ rfl; (with_reducible repeat first | apply blk_drewN | apply blk_drew | apply blk_alloc); refine blk_put (cs := #[.int .i64 ((rd_T26 l0 x26_2).f0.f0), .int .i64 0, .int .i64 0, .int .i64 0]) ?_ 1 _ rfl; (with_reducible repeat first | apply blk_drewN | apply blk_drew | apply blk_alloc); refine blk_put (cs := #[.int .i64 0, .int .i64 0, .int .i64 0, .int .i64 0]) ?_ 0 _ rfl; (with_reducible repeat first | apply blk_drewN | apply blk_drew | apply blk_alloc); exact BK218.out⟩
                have n2_ : Aside0 (Below w.heap.size w ((((w71.setCell ⟨gb218, 0, none⟩ (.int .i64 ((rd_T26 l0 x26_2).f0.f0))).setCell ⟨gb218, 1, none⟩ (.int .i64 ((rd_T26 l0 x26_2).f0.f1))).setCell ⟨gb218, 2, none⟩ (.int .i64 ((rd_T26 l0 x26_2).f1.f0))).setCell ⟨gb218, 3, none⟩ (.int .i64 ((rd_T26 l0 x26_2).f1.f1)))) := ⟨by repeat (first | (with_reducible first | exact HB.out | apply below_alloc | apply pw_below_drewN | apply below_drew1 | refine below_set ?_ GE218.out) | exact HB.out)⟩
                (try clear HO_5)
                (try clear BK218)
                (try clear HB)
                generalize ((((w71.setCell ⟨gb218, 0, none⟩ (.int .i64 ((rd_T26 l0 x26_2).f0.f0))).setCell ⟨gb218, 1, none⟩ (.int .i64 ((rd_T26 l0 x26_2).f0.f1))).setCell ⟨gb218, 2, none⟩ (.int .i64 ((rd_T26 l0 x26_2).f1.f0))).setCell ⟨gb218, 3, none⟩ (.int .i64 ((rd_T26 l0 x26_2).f1.f1))) = w73 at n0_ n1_ n2_ ⊢
                have HO_5 := n0_
                have BK218 := n1_
                have HB := n2_
                clear n0_ n1_ n2_
                have n0_ := Aside0.mk (Kd.R_drew HO_5.out)
                have n1_ := Aside0.mk (blk_drew BK218.out)
                have n2_ := Aside0.mk (below_drew1 HB.out)
                clear HO_5
                clear BK218
                clear HB
                have HO_5 := n0_
                have BK218 := n1_
                have HB := n2_
                clear n0_ n1_ n2_
                obtain ⟨Ao75, co75, eo75⟩ := Kd.R_slice HO_5.out
                (first | subst eo75 | (injection eo75 with f1_ f2_ f3_; have f4_ := f1_.symm; have f5_ := f3_.symm; clear f1_ f2_ f3_; subst f4_; subst f5_))
                have p219 : 0 ≤ (x6_1 : Int) := of_decide_eq_true (by first | (with_reducible assumption) | assumption)
                have q219 : x6_1 < (x5_2.length : Int) := of_decide_eq_true (by first | (with_reducible assumption) | assumption)
                obtain ⟨ad219, e219, hx219_0, hx219_1, hx219_2, hx219_3⟩ := at_T26 (Kd.R_reads' HO_5.out).2.2 x6_1 p219 q219
                cases e219
                replace p219 := eq_true p219
                replace q219 := eq_true q219
                refine start_ (n := 12) (S := fun w' => w'.cell? ⟨gb218, 0, none⟩ = some (.int .i64 ((rd_T26 l0 x26_2).f0.f0)) ∧ w'.cell? ⟨gb218, 1, none⟩ = some (.int .i64 ((rd_T26 l0 x26_2).f0.f1)) ∧ w'.cell? ⟨gb218, 2, none⟩ = some (.int .i64 ((rd_T26 l0 x26_2).f1.f0)) ∧ w'.cell? ⟨gb218, 3, none⟩ = some (.int .i64 ((rd_T26 l0 x26_2).f1.f1)) ∧ w'.cell? (ad219.add ((x6_1).toNat * 4)) = some (.int .i64 ((rd_T26 x5_2 x6_1).f0.f0)) ∧ w'.cell? ⟨(ad219.add ((x6_1).toNat * 4)).block, (ad219.add ((x6_1).toNat * 4)).off + 1, none⟩ = some (.int .i64 ((rd_T26 x5_2 x6_1).f0.f1)) ∧ w'.cell? ⟨(ad219.add ((x6_1).toNat * 4)).block, (ad219.add ((x6_1).toNat * 4)).off + 2, none⟩ = some (.int .i64 ((rd_T26 x5_2 x6_1).f1.f0)) ∧ w'.cell? ⟨(ad219.add ((x6_1).toNat * 4)).block, (ad219.add ((x6_1).toNat * 4)).off + 3, none⟩ = some (.int .i64 ((rd_T26 x5_2 x6_1).f1.f1))) (ds := []) #[false, false, false, false, false, false, false, false, false, false, false, false] (by kernel_rfl) rfl rfl ⟨(blk_cell BK218.out 0).trans rfl, (blk_cell BK218.out 1).trans rfl, (blk_cell BK218.out 2).trans rfl, (blk_cell BK218.out 3).trans rfl, hx219_0, hx219_1, hx219_2, hx219_3⟩ (fun hHeld => ?_); refine with_tabW impl_GroupOf.tab11 impl_GroupOf.bits11 (fun HT_ HW_ => ?_)
                generalize w73.drew = w74 at HO_5 BK218 HB hx219_0 hx219_1 hx219_2 hx219_3 hHeld ⊢
                refine pure_ (i := 0) (N := some 31) (v := ?_) (a' := ?_) #[true, false, false, false, false, false, false, false, false, false, false, false] rfl rfl (any_of HT_.out (by kernel_rfl)) (fun _ _ _ h => h) (Or.inl ⟨by rfl, ?_⟩) ?_ ?_
                rotate_left
                ·intro w'
                 go_simp
                 with_reducible rfl
                rotate_left
                ·simp only [Act.put, lstS, lstZ, lstC, i64_w, i32_w]
                 rfl
                refine pure_ (i := 1) (N := some 32) (v := ?_) (a' := ?_) #[true, true, false, false, false, false, false, false, false, false, false, false] rfl rfl (any_of HT_.out (by kernel_rfl)) (fun _ _ _ h => h) (Or.inl ⟨by rfl, ?_⟩) ?_ ?_
                rotate_left
                ·intro w'
                 go_simp
                 with_reducible rfl
                rotate_left
                ·simp only [Act.put, lstS, lstZ, lstC, i64_w, i32_w]
                 rfl
                refine pure_ (i := 2) (N := some 33) (v := ?_) (a' := ?_) #[true, true, true, false, false, false, false, false, false, false, false, false] rfl rfl (any_of HT_.out (by kernel_rfl)) (fun _ _ _ h => h) (Or.inl ⟨by rfl, ?_⟩) ?_ ?_
                rotate_left
                ·intro w'
                 go_simp
                 with_reducible rfl
                rotate_left
                ·simp only [Act.put, lstS, lstZ, lstC, i64_w, i32_w]
                 rfl
                refine take_ (i := 3) (N := some 34) (v := ?_) (a' := ?_) #[true, true, true, true, false, false, false, false, false, false, false, false] rfl rfl (take_ofW HT_.out HW_.out (by kernel_rfl)) (fun _ _ _ h => h) (Or.inl ⟨by rfl, ?_⟩) hHeld ?_ ?_
                rotate_left
                ·rintro w' ⟨s0, s1, s2, s3, s4, s5, s6, s7⟩
                 go_simp
                 with_reducible rfl
                rotate_left
                ·simp only [Act.put, lstS, lstZ, lstC, i64_w, i32_w]
                 rfl
                refine take_ (i := 4) (N := some 35) (v := ?_) (a' := ?_) #[true, true, true, true, true, false, false, false, false, false, false, false] rfl rfl (take_ofW HT_.out HW_.out (by kernel_rfl)) (fun _ _ _ h => h) (Or.inl ⟨by rfl, ?_⟩) hHeld ?_ ?_
                rotate_left
                ·rintro w' ⟨s0, s1, s2, s3, s4, s5, s6, s7⟩
                 go_simp
                 with_reducible rfl
                rotate_left
                ·simp only [Act.put, lstS, lstZ, lstC, i64_w, i32_w]
                 rfl
                refine join_ (σ := Nat) 2 #[true, true, true, true, true, true, true, true, true, true, false, false] (fun s_ => [(36, .tuple #[.agg #[.int .i64 t220, .int .i64 t221, .int .i64 t222, .int .i64 t223], .bool true]), (9, .pointer (some ⟨s_, 0, none⟩)), (30, .tuple #[.agg #[.int .i64 t220, .int .i64 t221, .int .i64 t222, .int .i64 t223], .bool true]), (37, .agg #[.int .i64 t220, .int .i64 t221, .int .i64 t222, .int .i64 t223]), (38, .bool true)]) (fun s_ w' => (w'.cell? ⟨gb218, 0, none⟩ = some (.int .i64 ((rd_T26 l0 x26_2).f0.f0)) ∧ w'.cell? ⟨gb218, 1, none⟩ = some (.int .i64 ((rd_T26 l0 x26_2).f0.f1)) ∧ w'.cell? ⟨gb218, 2, none⟩ = some (.int .i64 ((rd_T26 l0 x26_2).f1.f0)) ∧ w'.cell? ⟨gb218, 3, none⟩ = some (.int .i64 ((rd_T26 l0 x26_2).f1.f1)) ∧ w'.cell? (ad219.add ((x6_1).toNat * 4)) = some (.int .i64 ((rd_T26 x5_2 x6_1).f0.f0)) ∧ w'.cell? ⟨(ad219.add ((x6_1).toNat * 4)).block, (ad219.add ((x6_1).toNat * 4)).off + 1, none⟩ = some (.int .i64 ((rd_T26 x5_2 x6_1).f0.f1)) ∧ w'.cell? ⟨(ad219.add ((x6_1).toNat * 4)).block, (ad219.add ((x6_1).toNat * 4)).off + 2, none⟩ = some (.int .i64 ((rd_T26 x5_2 x6_1).f1.f0)) ∧ w'.cell? ⟨(ad219.add ((x6_1).toNat * 4)).block, (ad219.add ((x6_1).toNat * 4)).off + 3, none⟩ = some (.int .i64 ((rd_T26 x5_2 x6_1).f1.f1))) ∧ (Kd.R k26 26 w' w.heap.size (fun k_ => k_ ≠ gb218 ∧ k_ ≠ s_) (.slice (some ad219) x5_2.length co75) x5_2) ∧ (w'.heap[gb218]? = some (.cells #[.int .i64 ((rd_T26 l0 x26_2).f0.f0), .int .i64 ((rd_T26 l0 x26_2).f0.f1), .int .i64 ((rd_T26 l0 x26_2).f1.f0), .int .i64 ((rd_T26 l0 x26_2).f1.f1)] 26 (0, 0))) ∧ (w'.heap[s_]? = some (.cells #[.int .i64 0, .int .i64 0, .int .i64 0, .int .i64 0] 26 (0, 0))) ∧ (w.heap.size ≤ s_) ∧ (w.heap.size ≤ s_) ∧ (gb218 ≠ s_) ∧ (s_ ≠ gb218) ∧ (Below w.heap.size w w')) ?_ ?_
                rotate_left
                ·intro hCont
                 refine two_ (i := 5) (j := 9) (Ni := some 36) (Nj := some 9) #[true, true, true, true, true, true, false, false, false, false, false, false] #[true, true, true, true, true, false, false, false, false, true, false, false] rfl rfl rfl rfl (two_of HT_.out (by kernel_rfl)) (by decide) (by decide) (fun K hK => ?_) (fun K hK => ?_)
                 ·skip
                  refine goes_ Try.func44 (by kernel_rfl) rfl #[.agg #[.int .i64 ((rd_T26 x5_2 x6_1).f0.f0), .int .i64 ((rd_T26 x5_2 x6_1).f0.f1), .int .i64 ((rd_T26 x5_2 x6_1).f1.f0), .int .i64 ((rd_T26 x5_2 x6_1).f1.f1)], .agg #[.int .i64 ((rd_T26 l0 x26_2).f0.f0), .int .i64 ((rd_T26 l0 x26_2).f0.f1), .int .i64 ((rd_T26 l0 x26_2).f1.f0), .int .i64 ((rd_T26 l0 x26_2).f1.f1)]] (by rfl) rfl rfl (by (try simp only [List.map_toArray, List.map_cons, List.map_nil]); first | done | rfl | (simp only [List.length_drop, List.length_take]; rfl)) ?_
                  with_reducible refine (impl_product.calls k2 ((rd_T26 x5_2 x6_1).f0.f0) ((rd_T26 x5_2 x6_1).f0.f1) ((rd_T26 x5_2 x6_1).f1.f0) ((rd_T26 x5_2 x6_1).f1.f1) ((rd_T26 l0 x26_2).f0.f0) ((rd_T26 l0 x26_2).f0.f1) ((rd_T26 l0 x26_2).f1.f0) ((rd_T26 l0 x26_2).f1.f1) t220 t221 t222 t223 true _ A16.out).mono ?_
                  rintro e w76 ⟨rfl, hb⟩
                  have HS4_ := (hb.cell (World.block_lt_of_cell? _ _ (hHeld.2.2.2.2.1))).trans (hHeld.2.2.2.2.1)
                  have HS5_ := (hb.cell (World.block_lt_of_cell? _ _ (hHeld.2.2.2.2.2.1))).trans (hHeld.2.2.2.2.2.1)
                  have HS6_ := (hb.cell (World.block_lt_of_cell? _ _ (hHeld.2.2.2.2.2.2.1))).trans (hHeld.2.2.2.2.2.2.1)
                  have HS7_ := (hb.cell (World.block_lt_of_cell? _ _ (hHeld.2.2.2.2.2.2.2))).trans (hHeld.2.2.2.2.2.2.2)
                  refine ⟨_, rfl, ?_⟩
                  have n0_ := Aside0.mk (Kd.R_below (by (with_reducible repeat (first | apply Kd.R_alloc | apply Kd.R_drewN | apply Kd.R_drew)); exact HO_5.out) hb)
                  have n1_ := Aside0.mk (blk_below (g := gb218) (o := .cells #[.int .i64 ((rd_T26 l0 x26_2).f0.f0), .int .i64 ((rd_T26 l0 x26_2).f0.f1), .int .i64 ((rd_T26 l0 x26_2).f1.f0), .int .i64 ((rd_T26 l0 x26_2).f1.f1)] 26 (0, 0)) (by (with_reducible repeat first | apply blk_drewN | apply blk_drew | apply blk_alloc); exact BK218.out) hb)
                  have n2_ := Aside0.mk (below_step (by repeat (first | (with_reducible first | exact HB.out | apply below_alloc | apply pw_below_drewN | apply below_drew1 | refine below_set ?_ GE218.out) | exact HB.out)) hb)
                  clear HO_5
                  clear BK218
                  clear HB
                  have HO_5 := n0_
                  have BK218 := n1_
                  have HB := n2_
                  clear n0_ n1_ n2_
                  (try clear hb)
                  (try clear hb2)
                  (try clear hk)
                  (try clear hi)
                  refine hK.out _ _ ⟨(blk_cell BK218.out 0).trans rfl, (blk_cell BK218.out 1).trans rfl, (blk_cell BK218.out 2).trans rfl, (blk_cell BK218.out 3).trans rfl, HS4_, HS5_, HS6_, HS7_⟩ (fun hHeld => ?_)
                  clear hK K
                  refine norm_ (a' := ?_) ?_ ?_
                  rotate_left
                  ·show Act.put _ (some 36) _ = _
                   simp only [Act.put, lstS, lstZ, lstC, i64_w, i32_w]
                   rfl
                  refine pure_ (i := 6) (N := some 30) (v := ?_) (a' := ?_) #[true, true, true, true, true, true, true, false, false, false, false, false] rfl rfl (any_of HT_.out (by kernel_rfl)) (fun _ _ _ h => h) (Or.inl ⟨by rfl, ?_⟩) ?_ ?_
                  rotate_left
                  ·intro w'
                   go_simp
                   with_reducible rfl
                  rotate_left
                  ·simp only [Act.put, lstS, lstZ, lstC, i64_w, i32_w]
                   rfl
                  refine pure_ (i := 7) (N := some 37) (v := ?_) (a' := ?_) #[true, true, true, true, true, true, true, true, false, false, false, false] rfl rfl (any_of HT_.out (by kernel_rfl)) (fun _ _ _ h => h) (Or.inl ⟨by rfl, ?_⟩) ?_ ?_
                  rotate_left
                  ·intro w'
                   go_simp
                   with_reducible rfl
                  rotate_left
                  ·simp only [Act.put, lstS, lstZ, lstC, i64_w, i32_w]
                   rfl
                  refine pure_ (i := 8) (N := some 38) (v := ?_) (a' := ?_) #[true, true, true, true, true, true, true, true, true, false, false, false] rfl rfl (any_of HT_.out (by kernel_rfl)) (fun _ _ _ h => h) (Or.inl ⟨by rfl, ?_⟩) ?_ ?_
                  rotate_left
                  ·intro w'
                   go_simp
                   with_reducible rfl
                  rotate_left
                  ·simp only [Act.put, lstS, lstZ, lstC, i64_w, i32_w]
                   rfl
                  refine one_ (i := 9) (N := some 9) #[true, true, true, true, true, true, true, true, true, true, false, false] rfl rfl (one_of HT_.out (by kernel_rfl)) (by decide) (fun K hK => ?_)
                  refine box_step ?hg (N := 9) ?hd (cs := #[.int .i64 0, .int .i64 0, .int .i64 0, .int .i64 0]) (t := 26) ?hr ?_; (case hd => rfl); (case hg => rfl); (case hr => first | (go_simp; done) | (go_simp; rfl))
                  intro gb225 hg w77 hbox hb
                  have HS4_ := (hb.cell (World.block_lt_of_cell? _ _ (hHeld.2.2.2.2.1))).trans (hHeld.2.2.2.2.1)
                  have HS5_ := (hb.cell (World.block_lt_of_cell? _ _ (hHeld.2.2.2.2.2.1))).trans (hHeld.2.2.2.2.2.1)
                  have HS6_ := (hb.cell (World.block_lt_of_cell? _ _ (hHeld.2.2.2.2.2.2.1))).trans (hHeld.2.2.2.2.2.2.1)
                  have HS7_ := (hb.cell (World.block_lt_of_cell? _ _ (hHeld.2.2.2.2.2.2.2))).trans (hHeld.2.2.2.2.2.2.2)
                  have n0_ := Aside0.mk (Kd.R_below (Kd.R_elderB (by (with_reducible repeat (first | apply Kd.R_alloc | apply Kd.R_drewN | apply Kd.R_drew)); exact HO_5.out) gb225 (Nat.le_of_eq hg.symm)) hb)
                  have n1_ := Aside0.mk (blk_below (g := gb218) (o := .cells #[.int .i64 ((rd_T26 l0 x26_2).f0.f0), .int .i64 ((rd_T26 l0 x26_2).f0.f1), .int .i64 ((rd_T26 l0 x26_2).f1.f0), .int .i64 ((rd_T26 l0 x26_2).f1.f1)] 26 (0, 0)) (by (with_reducible repeat first | apply blk_drewN | apply blk_drew | apply blk_alloc); exact BK218.out) hb)
                  have n2_ := Aside0.mk (below_step (by repeat (first | (with_reducible first | exact HB.out | apply below_alloc | apply pw_below_drewN | apply below_drew1 | refine below_set ?_ GE218.out) | exact HB.out)) hb)
                  have n3_ := Aside0.mk (hbox)
                  have n4_ := Aside0.mk ((by rw [hg]; exact (below_size (by repeat (first | (with_reducible first | exact HB.out | apply below_alloc | apply pw_below_drewN | apply below_drew1 | refine below_set ?_ GE218.out) | exact HB.out))) : w.heap.size ≤ gb225))
                  have n5_ := Aside0.mk ((by rw [hg]; exact (below_size (by repeat (first | (with_reducible first | exact HB.out | apply below_alloc | apply pw_below_drewN | apply below_drew1 | refine below_set ?_ GE218.out) | exact HB.out))) : w.heap.size ≤ gb225))
                  have n6_ := Aside0.mk ((by rw [hg]; exact Nat.ne_of_lt (blk_lt (g := gb218) (o := .cells #[.int .i64 ((rd_T26 l0 x26_2).f0.f0), .int .i64 ((rd_T26 l0 x26_2).f0.f1), .int .i64 ((rd_T26 l0 x26_2).f1.f0), .int .i64 ((rd_T26 l0 x26_2).f1.f1)] 26 (0, 0)) (by (with_reducible repeat first | apply blk_drewN | apply blk_drew | apply blk_alloc); exact BK218.out)) : gb218 ≠ gb225))
                  have n7_ := Aside0.mk ((by rw [hg]; exact Nat.ne_of_gt (blk_lt (g := gb218) (o := .cells #[.int .i64 ((rd_T26 l0 x26_2).f0.f0), .int .i64 ((rd_T26 l0 x26_2).f0.f1), .int .i64 ((rd_T26 l0 x26_2).f1.f0), .int .i64 ((rd_T26 l0 x26_2).f1.f1)] 26 (0, 0)) (by (with_reducible repeat first | apply blk_drewN | apply blk_drew | apply blk_alloc); exact BK218.out)) : gb225 ≠ gb218))
                  clear HO_5
                  clear BK218
                  clear HB
                  have HO_5 := n0_
                  have BK218 := n1_
                  have HB := n2_
                  have BK225 := n3_
                  have GW225 := n4_
                  have GE225 := n5_
                  have NB218_225 := n6_
                  have NB225_218 := n7_
                  clear n0_ n1_ n2_ n3_ n4_ n5_ n6_ n7_
                  clear hb hbox hg
                  refine hK.out _ _ ⟨(blk_cell BK218.out 0).trans rfl, (blk_cell BK218.out 1).trans rfl, (blk_cell BK218.out 2).trans rfl, (blk_cell BK218.out 3).trans rfl, HS4_, HS5_, HS6_, HS7_⟩ (fun hHeld => ?_)
                  clear hK K
                  refine norm_ (a' := ?_) ?_ ?_
                  rotate_left
                  ·show Act.put _ (some 9) _ = _
                   simp only [Act.put, lstS, lstZ, lstC, i64_w, i32_w]
                   rfl
                  exact norm_ (by simp only [putAll, Act.put, lstS, lstZ, lstC]) (hCont (gb225) _ ⟨hHeld, (by (with_reducible repeat (first | apply Kd.R_alloc | apply Kd.R_drewN | apply Kd.R_drew)); exact HO_5.out), (by (with_reducible repeat first | apply blk_drewN | apply blk_drew | apply blk_alloc); exact BK218.out), (by (with_reducible repeat first | apply blk_drewN | apply blk_drew | apply blk_alloc); exact BK225.out), GW225.out, GE225.out, NB218_225.out, NB225_218.out, (by repeat (first | (with_reducible first | exact HB.out | apply below_alloc | apply pw_below_drewN | apply below_drew1 | refine below_set ?_ GE218.out | refine below_set ?_ GE225.out) | exact HB.out))⟩)
                 ·skip
                  refine box_step ?hg (N := 9) ?hd (cs := #[.int .i64 0, .int .i64 0, .int .i64 0, .int .i64 0]) (t := 26) ?hr ?_; (case hd => rfl); (case hg => rfl); (case hr => first | (go_simp; done) | (go_simp; rfl))
                  intro gb225 hg w76 hbox hb
                  have HS4_ := (hb.cell (World.block_lt_of_cell? _ _ (hHeld.2.2.2.2.1))).trans (hHeld.2.2.2.2.1)
                  have HS5_ := (hb.cell (World.block_lt_of_cell? _ _ (hHeld.2.2.2.2.2.1))).trans (hHeld.2.2.2.2.2.1)
                  have HS6_ := (hb.cell (World.block_lt_of_cell? _ _ (hHeld.2.2.2.2.2.2.1))).trans (hHeld.2.2.2.2.2.2.1)
                  have HS7_ := (hb.cell (World.block_lt_of_cell? _ _ (hHeld.2.2.2.2.2.2.2))).trans (hHeld.2.2.2.2.2.2.2)
                  have n0_ := Aside0.mk (Kd.R_below (Kd.R_elderB (by (with_reducible repeat (first | apply Kd.R_alloc | apply Kd.R_drewN | apply Kd.R_drew)); exact HO_5.out) gb225 (Nat.le_of_eq hg.symm)) hb)
                  have n1_ := Aside0.mk (blk_below (g := gb218) (o := .cells #[.int .i64 ((rd_T26 l0 x26_2).f0.f0), .int .i64 ((rd_T26 l0 x26_2).f0.f1), .int .i64 ((rd_T26 l0 x26_2).f1.f0), .int .i64 ((rd_T26 l0 x26_2).f1.f1)] 26 (0, 0)) (by (with_reducible repeat first | apply blk_drewN | apply blk_drew | apply blk_alloc); exact BK218.out) hb)
                  have n2_ := Aside0.mk (below_step (by repeat (first | (with_reducible first | exact HB.out | apply below_alloc | apply pw_below_drewN | apply below_drew1 | refine below_set ?_ GE218.out) | exact HB.out)) hb)
                  have n3_ := Aside0.mk (hbox)
                  have n4_ := Aside0.mk ((by rw [hg]; exact (below_size (by repeat (first | (with_reducible first | exact HB.out | apply below_alloc | apply pw_below_drewN | apply below_drew1 | refine below_set ?_ GE218.out) | exact HB.out))) : w.heap.size ≤ gb225))
                  have n5_ := Aside0.mk ((by rw [hg]; exact (below_size (by repeat (first | (with_reducible first | exact HB.out | apply below_alloc | apply pw_below_drewN | apply below_drew1 | refine below_set ?_ GE218.out) | exact HB.out))) : w.heap.size ≤ gb225))
                  have n6_ := Aside0.mk ((by rw [hg]; exact Nat.ne_of_lt (blk_lt (g := gb218) (o := .cells #[.int .i64 ((rd_T26 l0 x26_2).f0.f0), .int .i64 ((rd_T26 l0 x26_2).f0.f1), .int .i64 ((rd_T26 l0 x26_2).f1.f0), .int .i64 ((rd_T26 l0 x26_2).f1.f1)] 26 (0, 0)) (by (with_reducible repeat first | apply blk_drewN | apply blk_drew | apply blk_alloc); exact BK218.out)) : gb218 ≠ gb225))
                  have n7_ := Aside0.mk ((by rw [hg]; exact Nat.ne_of_gt (blk_lt (g := gb218) (o := .cells #[.int .i64 ((rd_T26 l0 x26_2).f0.f0), .int .i64 ((rd_T26 l0 x26_2).f0.f1), .int .i64 ((rd_T26 l0 x26_2).f1.f0), .int .i64 ((rd_T26 l0 x26_2).f1.f1)] 26 (0, 0)) (by (with_reducible repeat first | apply blk_drewN | apply blk_drew | apply blk_alloc); exact BK218.out)) : gb225 ≠ gb218))
                  clear HO_5
                  clear BK218
                  clear HB
                  have HO_5 := n0_
                  have BK218 := n1_
                  have HB := n2_
                  have BK225 := n3_
                  have GW225 := n4_
                  have GE225 := n5_
                  have NB218_225 := n6_
                  have NB225_218 := n7_
                  clear n0_ n1_ n2_ n3_ n4_ n5_ n6_ n7_
                  clear hb hbox hg
                  refine hK.out _ _ ⟨(blk_cell BK218.out 0).trans rfl, (blk_cell BK218.out 1).trans rfl, (blk_cell BK218.out 2).trans rfl, (blk_cell BK218.out 3).trans rfl, HS4_, HS5_, HS6_, HS7_⟩ (fun hHeld => ?_)
                  clear hK K
                  refine norm_ (a' := ?_) ?_ ?_
                  rotate_left
                  ·show Act.put _ (some 9) _ = _
                   simp only [Act.put, lstS, lstZ, lstC, i64_w, i32_w]
                   rfl
                  refine one_ (i := 5) (N := some 36) #[true, true, true, true, true, true, false, false, false, true, false, false] rfl rfl (one_of HT_.out (by kernel_rfl)) (by decide) (fun K hK => ?_)
                  refine goes_ Try.func44 (by kernel_rfl) rfl #[.agg #[.int .i64 ((rd_T26 x5_2 x6_1).f0.f0), .int .i64 ((rd_T26 x5_2 x6_1).f0.f1), .int .i64 ((rd_T26 x5_2 x6_1).f1.f0), .int .i64 ((rd_T26 x5_2 x6_1).f1.f1)], .agg #[.int .i64 ((rd_T26 l0 x26_2).f0.f0), .int .i64 ((rd_T26 l0 x26_2).f0.f1), .int .i64 ((rd_T26 l0 x26_2).f1.f0), .int .i64 ((rd_T26 l0 x26_2).f1.f1)]] (by rfl) rfl rfl (by (try simp only [List.map_toArray, List.map_cons, List.map_nil]); first | done | rfl | (simp only [List.length_drop, List.length_take]; rfl)) ?_
                  with_reducible refine (impl_product.calls k2 ((rd_T26 x5_2 x6_1).f0.f0) ((rd_T26 x5_2 x6_1).f0.f1) ((rd_T26 x5_2 x6_1).f1.f0) ((rd_T26 x5_2 x6_1).f1.f1) ((rd_T26 l0 x26_2).f0.f0) ((rd_T26 l0 x26_2).f0.f1) ((rd_T26 l0 x26_2).f1.f0) ((rd_T26 l0 x26_2).f1.f1) t220 t221 t222 t223 true _ A16.out).mono ?_
                  rintro e w77 ⟨rfl, hb⟩
                  have HS4_ := (hb.cell (World.block_lt_of_cell? _ _ (hHeld.2.2.2.2.1))).trans (hHeld.2.2.2.2.1)
                  have HS5_ := (hb.cell (World.block_lt_of_cell? _ _ (hHeld.2.2.2.2.2.1))).trans (hHeld.2.2.2.2.2.1)
                  have HS6_ := (hb.cell (World.block_lt_of_cell? _ _ (hHeld.2.2.2.2.2.2.1))).trans (hHeld.2.2.2.2.2.2.1)
                  have HS7_ := (hb.cell (World.block_lt_of_cell? _ _ (hHeld.2.2.2.2.2.2.2))).trans (hHeld.2.2.2.2.2.2.2)
                  refine ⟨_, rfl, ?_⟩
                  have n0_ := Aside0.mk (Kd.R_below (by (with_reducible repeat (first | apply Kd.R_alloc | apply Kd.R_drewN | apply Kd.R_drew)); exact HO_5.out) hb)
                  have n1_ := Aside0.mk (blk_below (g := gb218) (o := .cells #[.int .i64 ((rd_T26 l0 x26_2).f0.f0), .int .i64 ((rd_T26 l0 x26_2).f0.f1), .int .i64 ((rd_T26 l0 x26_2).f1.f0), .int .i64 ((rd_T26 l0 x26_2).f1.f1)] 26 (0, 0)) (by (with_reducible repeat first | apply blk_drewN | apply blk_drew | apply blk_alloc); exact BK218.out) hb)
                  have n2_ := Aside0.mk (blk_below (g := gb225) (o := .cells #[.int .i64 0, .int .i64 0, .int .i64 0, .int .i64 0] 26 (0, 0)) (by (with_reducible repeat first | apply blk_drewN | apply blk_drew | apply blk_alloc); exact BK225.out) hb)
                  have n3_ := Aside0.mk (below_step (by repeat (first | (with_reducible first | exact HB.out | apply below_alloc | apply pw_below_drewN | apply below_drew1 | refine below_set ?_ GE218.out | refine below_set ?_ GE225.out) | exact HB.out)) hb)
                  clear HO_5
                  clear BK218
                  clear BK225
                  clear HB
                  have HO_5 := n0_
                  have BK218 := n1_
                  have BK225 := n2_
                  have HB := n3_
                  clear n0_ n1_ n2_ n3_
                  (try clear hb)
                  (try clear hb2)
                  (try clear hk)
                  (try clear hi)
                  refine hK.out _ _ ⟨(blk_cell BK218.out 0).trans rfl, (blk_cell BK218.out 1).trans rfl, (blk_cell BK218.out 2).trans rfl, (blk_cell BK218.out 3).trans rfl, HS4_, HS5_, HS6_, HS7_⟩ (fun hHeld => ?_)
                  clear hK K
                  refine norm_ (a' := ?_) ?_ ?_
                  rotate_left
                  ·show Act.put _ (some 36) _ = _
                   simp only [Act.put, lstS, lstZ, lstC, i64_w, i32_w]
                   rfl
                  refine pure_ (i := 6) (N := some 30) (v := ?_) (a' := ?_) #[true, true, true, true, true, true, true, false, false, true, false, false] rfl rfl (any_of HT_.out (by kernel_rfl)) (fun _ _ _ h => h) (Or.inl ⟨by rfl, ?_⟩) ?_ ?_
                  rotate_left
                  ·intro w'
                   go_simp
                   with_reducible rfl
                  rotate_left
                  ·simp only [Act.put, lstS, lstZ, lstC, i64_w, i32_w]
                   rfl
                  refine pure_ (i := 7) (N := some 37) (v := ?_) (a' := ?_) #[true, true, true, true, true, true, true, true, false, true, false, false] rfl rfl (any_of HT_.out (by kernel_rfl)) (fun _ _ _ h => h) (Or.inl ⟨by rfl, ?_⟩) ?_ ?_
                  rotate_left
                  ·intro w'
                   go_simp
                   with_reducible rfl
                  rotate_left
                  ·simp only [Act.put, lstS, lstZ, lstC, i64_w, i32_w]
                   rfl
                  refine pure_ (i := 8) (N := some 38) (v := ?_) (a' := ?_) #[true, true, true, true, true, true, true, true, true, true, false, false] rfl rfl (any_of HT_.out (by kernel_rfl)) (fun _ _ _ h => h) (Or.inl ⟨by rfl, ?_⟩) ?_ ?_
                  rotate_left
                  ·intro w'
                   go_simp
                   with_reducible rfl
                  rotate_left
                  ·simp only [Act.put, lstS, lstZ, lstC, i64_w, i32_w]
                   rfl
                  exact norm_ (by simp only [putAll, Act.put, lstS, lstZ, lstC]) (hCont (gb225) _ ⟨hHeld, (by (with_reducible repeat (first | apply Kd.R_alloc | apply Kd.R_drewN | apply Kd.R_drew)); exact HO_5.out), (by (with_reducible repeat first | apply blk_drewN | apply blk_drew | apply blk_alloc); exact BK218.out), (by (with_reducible repeat first | apply blk_drewN | apply blk_drew | apply blk_alloc); exact BK225.out), GW225.out, GE225.out, NB218_225.out, NB225_218.out, (by repeat (first | (with_reducible first | exact HB.out | apply below_alloc | apply pw_below_drewN | apply below_drew1 | refine below_set ?_ GE218.out | refine below_set ?_ GE225.out) | exact HB.out))⟩)
                rintro gb225 w78 ⟨hS_, h0_, h1_, h2_, h3_, h4_, h5_, h6_, h7_⟩
                have n0_ : Aside0 (Kd.R k26 26 w78 w.heap.size (fun k_ => k_ ≠ gb218 ∧ k_ ≠ gb225) (.slice (some ad219) x5_2.length co75) x5_2) := ⟨h0_⟩
                have n1_ : Aside0 (w78.heap[gb218]? = some (.cells #[.int .i64 ((rd_T26 l0 x26_2).f0.f0), .int .i64 ((rd_T26 l0 x26_2).f0.f1), .int .i64 ((rd_T26 l0 x26_2).f1.f0), .int .i64 ((rd_T26 l0 x26_2).f1.f1)] 26 (0, 0))) := ⟨h1_⟩
                have n2_ : Aside0 (w78.heap[gb225]? = some (.cells #[.int .i64 0, .int .i64 0, .int .i64 0, .int .i64 0] 26 (0, 0))) := ⟨h2_⟩
                have n3_ : Aside0 (w.heap.size ≤ gb225) := ⟨h3_⟩
                have n4_ : Aside0 (w.heap.size ≤ gb225) := ⟨h4_⟩
                have n5_ : Aside0 (gb218 ≠ gb225) := ⟨h5_⟩
                have n6_ : Aside0 (gb225 ≠ gb218) := ⟨h6_⟩
                have n7_ : Aside0 (Below w.heap.size w w78) := ⟨h7_⟩
                clear HO_5
                clear BK218
                clear HB
                clear h0_ h1_ h2_ h3_ h4_ h5_ h6_ h7_
                have HO_5 := n0_
                have BK218 := n1_
                have BK225 := n2_
                have GW225 := n3_
                have GE225 := n4_
                have NB218_225 := n5_
                have NB225_218 := n6_
                have HB := n7_
                clear n0_ n1_ n2_ n3_ n4_ n5_ n6_ n7_
                have hHeld : w78.cell? ⟨gb218, 0, none⟩ = some (.int .i64 ((rd_T26 l0 x26_2).f0.f0)) ∧ w78.cell? ⟨gb218, 1, none⟩ = some (.int .i64 ((rd_T26 l0 x26_2).f0.f1)) ∧ w78.cell? ⟨gb218, 2, none⟩ = some (.int .i64 ((rd_T26 l0 x26_2).f1.f0)) ∧ w78.cell? ⟨gb218, 3, none⟩ = some (.int .i64 ((rd_T26 l0 x26_2).f1.f1)) ∧ w78.cell? (ad219.add ((x6_1).toNat * 4)) = some (.int .i64 ((rd_T26 x5_2 x6_1).f0.f0)) ∧ w78.cell? ⟨(ad219.add ((x6_1).toNat * 4)).block, (ad219.add ((x6_1).toNat * 4)).off + 1, none⟩ = some (.int .i64 ((rd_T26 x5_2 x6_1).f0.f1)) ∧ w78.cell? ⟨(ad219.add ((x6_1).toNat * 4)).block, (ad219.add ((x6_1).toNat * 4)).off + 2, none⟩ = some (.int .i64 ((rd_T26 x5_2 x6_1).f1.f0)) ∧ w78.cell? ⟨(ad219.add ((x6_1).toNat * 4)).block, (ad219.add ((x6_1).toNat * 4)).off + 3, none⟩ = some (.int .i64 ((rd_T26 x5_2 x6_1).f1.f1)) := hS_
                refine norm_ (a' := ?_) ?_ ?_
                rotate_left
                ·simp only [putAll, Act.put, lstS, lstZ, lstC]
                 rfl
                refine one_ (i := 10) (N := none) #[true, true, true, true, true, true, true, true, true, true, true, false] rfl rfl (one_of HT_.out (by kernel_rfl)) (by decide) (fun K hK => ?_)
                have hs79 : w78.cell? ⟨gb225, 0, none⟩ = some (.int .i64 0) := (blk_cell BK225.out 0).trans rfl
                have hfs79 := blk_frozen BK225.out 0
                have hns79_0 := NB218_225.out
                have hms79_0 := NB225_218.out
                have hs80 : w78.cell? ⟨gb225, 1, none⟩ = some (.int .i64 0) := (blk_cell BK225.out 1).trans rfl
                have hfs80 := blk_frozen BK225.out 1
                have hns80_0 := NB218_225.out
                have hms80_0 := NB225_218.out
                have hs81 : w78.cell? ⟨gb225, 2, none⟩ = some (.int .i64 0) := (blk_cell BK225.out 2).trans rfl
                have hfs81 := blk_frozen BK225.out 2
                have hns81_0 := NB218_225.out
                have hms81_0 := NB225_218.out
                have hs82 : w78.cell? ⟨gb225, 3, none⟩ = some (.int .i64 0) := (blk_cell BK225.out 3).trans rfl
                have hfs82 := blk_frozen BK225.out 3
                have hns82_0 := NB218_225.out
                have hms82_0 := NB225_218.out
                refine skip_ (w1 := ?_) (by rfl) rfl ?_ ?_
                rotate_left
                ·go_simp
                 rfl
                refine hK.out _ _ ⟨((cell_far (p := ⟨gb225, _, none⟩) NB218_225.out _).trans (((cell_far (p := ⟨gb225, _, none⟩) NB218_225.out _).trans (((cell_far (p := ⟨gb225, _, none⟩) NB218_225.out _).trans (((cell_far (p := ⟨gb225, _, none⟩) NB218_225.out _).trans (hHeld.1)))))))), ((cell_far (p := ⟨gb225, _, none⟩) NB218_225.out _).trans (((cell_far (p := ⟨gb225, _, none⟩) NB218_225.out _).trans (((cell_far (p := ⟨gb225, _, none⟩) NB218_225.out _).trans (((cell_far (p := ⟨gb225, _, none⟩) NB218_225.out _).trans (hHeld.2.1)))))))), ((cell_far (p := ⟨gb225, _, none⟩) NB218_225.out _).trans (((cell_far (p := ⟨gb225, _, none⟩) NB218_225.out _).trans (((cell_far (p := ⟨gb225, _, none⟩) NB218_225.out _).trans (((cell_far (p := ⟨gb225, _, none⟩) NB218_225.out _).trans (hHeld.2.2.1)))))))), ((cell_far (p := ⟨gb225, _, none⟩) NB218_225.out _).trans (((cell_far (p := ⟨gb225, _, none⟩) NB218_225.out _).trans (((cell_far (p := ⟨gb225, _, none⟩) NB218_225.out _).trans (((cell_far (p := ⟨gb225, _, none⟩) NB218_225.out _).trans (hHeld.2.2.2.1)))))))), ((cell_far (p := ⟨gb225, _, none⟩) (by first | exact Kd.own_blk (Kd.R_away HO_5.out (fun _ hk => hk.2)) | (rw [add_block]; exact Kd.own_blk (Kd.R_away HO_5.out (fun _ hk => hk.2))) | (show (Addr.add _ _).block ≠ _; rw [add_block]; exact Kd.own_blk (Kd.R_away HO_5.out (fun _ hk => hk.2))) | (dsimp only; exact Kd.own_blk (Kd.R_away HO_5.out (fun _ hk => hk.2)))) _).trans (((cell_far (p := ⟨gb225, _, none⟩) (by first | exact Kd.own_blk (Kd.R_away HO_5.out (fun _ hk => hk.2)) | (rw [add_block]; exact Kd.own_blk (Kd.R_away HO_5.out (fun _ hk => hk.2))) | (show (Addr.add _ _).block ≠ _; rw [add_block]; exact Kd.own_blk (Kd.R_away HO_5.out (fun _ hk => hk.2))) | (dsimp only; exact Kd.own_blk (Kd.R_away HO_5.out (fun _ hk => hk.2)))) _).trans (((cell_far (p := ⟨gb225, _, none⟩) (by first | exact Kd.own_blk (Kd.R_away HO_5.out (fun _ hk => hk.2)) | (rw [add_block]; exact Kd.own_blk (Kd.R_away HO_5.out (fun _ hk => hk.2))) | (show (Addr.add _ _).block ≠ _; rw [add_block]; exact Kd.own_blk (Kd.R_away HO_5.out (fun _ hk => hk.2))) | (dsimp only; exact Kd.own_blk (Kd.R_away HO_5.out (fun _ hk => hk.2)))) _).trans (((cell_far (p := ⟨gb225, _, none⟩) (by first | exact Kd.own_blk (Kd.R_away HO_5.out (fun _ hk => hk.2)) | (rw [add_block]; exact Kd.own_blk (Kd.R_away HO_5.out (fun _ hk => hk.2))) | (show (Addr.add _ _).block ≠ _; rw [add_block]; exact Kd.own_blk (Kd.R_away HO_5.out (fun _ hk => hk.2))) | (dsimp only; exact Kd.own_blk (Kd.R_away HO_5.out (fun _ hk => hk.2)))) _).trans (hHeld.2.2.2.2.1)))))))), ((cell_far (p := ⟨gb225, _, none⟩) (by first | exact Kd.own_blk (Kd.R_away HO_5.out (fun _ hk => hk.2)) | (rw [add_block]; exact Kd.own_blk (Kd.R_away HO_5.out (fun _ hk => hk.2))) | (show (Addr.add _ _).block ≠ _; rw [add_block]; exact Kd.own_blk (Kd.R_away HO_5.out (fun _ hk => hk.2))) | (dsimp only; exact Kd.own_blk (Kd.R_away HO_5.out (fun _ hk => hk.2)))) _).trans (((cell_far (p := ⟨gb225, _, none⟩) (by first | exact Kd.own_blk (Kd.R_away HO_5.out (fun _ hk => hk.2)) | (rw [add_block]; exact Kd.own_blk (Kd.R_away HO_5.out (fun _ hk => hk.2))) | (show (Addr.add _ _).block ≠ _; rw [add_block]; exact Kd.own_blk (Kd.R_away HO_5.out (fun _ hk => hk.2))) | (dsimp only; exact Kd.own_blk (Kd.R_away HO_5.out (fun _ hk => hk.2)))) _).trans (((cell_far (p := ⟨gb225, _, none⟩) (by first | exact Kd.own_blk (Kd.R_away HO_5.out (fun _ hk => hk.2)) | (rw [add_block]; exact Kd.own_blk (Kd.R_away HO_5.out (fun _ hk => hk.2))) | (show (Addr.add _ _).block ≠ _; rw [add_block]; exact Kd.own_blk (Kd.R_away HO_5.out (fun _ hk => hk.2))) | (dsimp only; exact Kd.own_blk (Kd.R_away HO_5.out (fun _ hk => hk.2)))) _).trans (((cell_far (p := ⟨gb225, _, none⟩) (by first | exact Kd.own_blk (Kd.R_away HO_5.out (fun _ hk => hk.2)) | (rw [add_block]; exact Kd.own_blk (Kd.R_away HO_5.out (fun _ hk => hk.2))) | (show (Addr.add _ _).block ≠ _; rw [add_block]; exact Kd.own_blk (Kd.R_away HO_5.out (fun _ hk => hk.2))) | (dsimp only; exact Kd.own_blk (Kd.R_away HO_5.out (fun _ hk => hk.2)))) _).trans (hHeld.2.2.2.2.2.1)))))))), ((cell_far (p := ⟨gb225, _, none⟩) (by first | exact Kd.own_blk (Kd.R_away HO_5.out (fun _ hk => hk.2)) | (rw [add_block]; exact Kd.own_blk (Kd.R_away HO_5.out (fun _ hk => hk.2))) | (show (Addr.add _ _).block ≠ _; rw [add_block]; exact Kd.own_blk (Kd.R_away HO_5.out (fun _ hk => hk.2))) | (dsimp only; exact Kd.own_blk (Kd.R_away HO_5.out (fun _ hk => hk.2)))) _).trans (((cell_far (p := ⟨gb225, _, none⟩) (by first | exact Kd.own_blk (Kd.R_away HO_5.out (fun _ hk => hk.2)) | (rw [add_block]; exact Kd.own_blk (Kd.R_away HO_5.out (fun _ hk => hk.2))) | (show (Addr.add _ _).block ≠ _; rw [add_block]; exact Kd.own_blk (Kd.R_away HO_5.out (fun _ hk => hk.2))) | (dsimp only; exact Kd.own_blk (Kd.R_away HO_5.out (fun _ hk => hk.2)))) _).trans (((cell_far (p := ⟨gb225, _, none⟩) (by first | exact Kd.own_blk (Kd.R_away HO_5.out (fun _ hk => hk.2)) | (rw [add_block]; exact Kd.own_blk (Kd.R_away HO_5.out (fun _ hk => hk.2))) | (show (Addr.add _ _).block ≠ _; rw [add_block]; exact Kd.own_blk (Kd.R_away HO_5.out (fun _ hk => hk.2))) | (dsimp only; exact Kd.own_blk (Kd.R_away HO_5.out (fun _ hk => hk.2)))) _).trans (((cell_far (p := ⟨gb225, _, none⟩) (by first | exact Kd.own_blk (Kd.R_away HO_5.out (fun _ hk => hk.2)) | (rw [add_block]; exact Kd.own_blk (Kd.R_away HO_5.out (fun _ hk => hk.2))) | (show (Addr.add _ _).block ≠ _; rw [add_block]; exact Kd.own_blk (Kd.R_away HO_5.out (fun _ hk => hk.2))) | (dsimp only; exact Kd.own_blk (Kd.R_away HO_5.out (fun _ hk => hk.2)))) _).trans (hHeld.2.2.2.2.2.2.1)))))))), ((cell_far (p := ⟨gb225, _, none⟩) (by first | exact Kd.own_blk (Kd.R_away HO_5.out (fun _ hk => hk.2)) | (rw [add_block]; exact Kd.own_blk (Kd.R_away HO_5.out (fun _ hk => hk.2))) | (show (Addr.add _ _).block ≠ _; rw [add_block]; exact Kd.own_blk (Kd.R_away HO_5.out (fun _ hk => hk.2))) | (dsimp only; exact Kd.own_blk (Kd.R_away HO_5.out (fun _ hk => hk.2)))) _).trans (((cell_far (p := ⟨gb225, _, none⟩) (by first | exact Kd.own_blk (Kd.R_away HO_5.out (fun _ hk => hk.2)) | (rw [add_block]; exact Kd.own_blk (Kd.R_away HO_5.out (fun _ hk => hk.2))) | (show (Addr.add _ _).block ≠ _; rw [add_block]; exact Kd.own_blk (Kd.R_away HO_5.out (fun _ hk => hk.2))) | (dsimp only; exact Kd.own_blk (Kd.R_away HO_5.out (fun _ hk => hk.2)))) _).trans (((cell_far (p := ⟨gb225, _, none⟩) (by first | exact Kd.own_blk (Kd.R_away HO_5.out (fun _ hk => hk.2)) | (rw [add_block]; exact Kd.own_blk (Kd.R_away HO_5.out (fun _ hk => hk.2))) | (show (Addr.add _ _).block ≠ _; rw [add_block]; exact Kd.own_blk (Kd.R_away HO_5.out (fun _ hk => hk.2))) | (dsimp only; exact Kd.own_blk (Kd.R_away HO_5.out (fun _ hk => hk.2)))) _).trans (((cell_far (p := ⟨gb225, _, none⟩) (by first | exact Kd.own_blk (Kd.R_away HO_5.out (fun _ hk => hk.2)) | (rw [add_block]; exact Kd.own_blk (Kd.R_away HO_5.out (fun _ hk => hk.2))) | (show (Addr.add _ _).block ≠ _; rw [add_block]; exact Kd.own_blk (Kd.R_away HO_5.out (fun _ hk => hk.2))) | (dsimp only; exact Kd.own_blk (Kd.R_away HO_5.out (fun _ hk => hk.2)))) _).trans (hHeld.2.2.2.2.2.2.2))))))))⟩ (fun hHeld => ?_)
                clear hK K
                refine pure_ (i := 11) (N := some 10) (v := ?_) (a' := ?_) #[true, true, true, true, true, true, true, true, true, true, true, true] rfl rfl (any_of HT_.out (by kernel_rfl)) (fun _ _ _ h => h) (Or.inl ⟨by rfl, ?_⟩) ?_ ?_
                rotate_left
                ·intro w'
                 go_simp
                 with_reducible rfl
                rotate_left
                ·simp only [Act.put, lstS, lstZ, lstC, i64_w, i32_w]
                 rfl
                refine done_ (done_of HT_.out (by kernel_rfl)) ?_
                have hnb83 := NB225_218.out
                have hnc83 := NB218_225.out
                have hcz84_0 : w78.cell? ⟨gb225, 0, none⟩ = some (.int .i64 0) := (blk_cell BK225.out 0).trans rfl
                have hcz84_1 : w78.cell? ⟨gb225, 1, none⟩ = some (.int .i64 0) := (blk_cell BK225.out 1).trans rfl
                have hcz84_2 : w78.cell? ⟨gb225, 2, none⟩ = some (.int .i64 0) := (blk_cell BK225.out 2).trans rfl
                have hcz84_3 : w78.cell? ⟨gb225, 3, none⟩ = some (.int .i64 0) := (blk_cell BK225.out 3).trans rfl
                have hfz84_0 := blk_frozen BK225.out 0
                have hfz84_1 := blk_frozen BK225.out 1
                have hfz84_2 := blk_frozen BK225.out 2
                have hfz84_3 := blk_frozen BK225.out 3
                try go_wp2_with (first | ((with_reducible refine gate_callee (f := 51) rfl ?_); refine goesL_ (some 43) rfl rfl Try.func51 (by kernel_rfl) rfl #[.slice (some ad219) x5_2.length co75, .agg #[.int .i64 t220, .int .i64 t221, .int .i64 t222, .int .i64 t223]] rfl (by (try simp only [List.map_toArray, List.map_cons, List.map_nil]); first | done | rfl | (simp only [List.length_drop, List.length_take]; rfl)) ?_; (with_reducible refine (impl_Matrix_51.calls k2 _ _ x5_2 t220 t221 t222 t223 false _ ?side1 ?side2 A18.out).mono ?_); (case side1 => refine (Kd.R_reads' (e := 26) (base := w.heap.size) (ok := fun k_ => (k_ ≠ gb218 ∧ k_ ≠ gb225)) (n := x5_2.length) (c := co75) ?_).2.2; exact (by (with_reducible repeat (first | apply Kd.R_alloc | apply Kd.R_drewN | apply Kd.R_drew)); exact (Kd.R_mono (Kd.R_far (p := ⟨gb225, 3, none⟩) (Kd.R_far (p := ⟨gb225, 2, none⟩) (Kd.R_far (p := ⟨gb225, 1, none⟩) (Kd.R_far (p := ⟨gb225, 0, none⟩) (Kd.R_mono HO_5.out (fun k_ hk => (⟨hk, hk.2⟩ : _ ∧ k_ ≠ gb225))) (fun _ hk => hk.2) (.int .i64 t220)) (fun _ hk => hk.2) (.int .i64 t221)) (fun _ hk => hk.2) (.int .i64 t222)) (fun _ hk => hk.2) (.int .i64 t223)) (fun _ h_ => h_.1)))); (case side2 => exact (Kd.R_reads' HO_5.out).2.1); rintro e w85 ⟨rfl, hb⟩; refine ⟨_, rfl, ?_⟩; have n0_ := Aside0.mk (Kd.R_below (by (with_reducible repeat (first | apply Kd.R_alloc | apply Kd.R_drewN | apply Kd.R_drew)); exact (Kd.R_mono (Kd.R_far (p := ⟨gb225, 3, none⟩) (Kd.R_far (p := ⟨gb225, 2, none⟩) (Kd.R_far (p := ⟨gb225, 1, none⟩) (Kd.R_far (p := ⟨gb225, 0, none⟩) (Kd.R_mono HO_5.out (fun k_ hk => (⟨hk, hk.2⟩ : _ ∧ k_ ≠ gb225))) (fun _ hk => hk.2) (.int .i64 t220)) (fun _ hk => hk.2) (.int .i64 t221)) (fun _ hk => hk.2) (.int .i64 t222)) (fun _ hk => hk.2) (.int .i64 t223)) (fun _ h_ => h_.1))) hb); have n1_ := Aside0.mk (blk_below (g := gb218) (o := .cells #[.int .i64 ((rd_T26 l0 x26_2).f0.f0), .int .i64 ((rd_T26 l0 x26_2).f0.f1), .int .i64 ((rd_T26 l0 x26_2).f1.f0), .int .i64 ((rd_T26 l0 x26_2).f1.f1)] 26 (0, 0)) (by (with_reducible repeat first | apply blk_drewN | apply blk_drew | apply blk_alloc); refine blk_far ?_ NB218_225.out _; (with_reducible repeat first | apply blk_drewN | apply blk_drew | apply blk_alloc); refine blk_far ?_ NB218_225.out _; (with_reducible repeat first | apply blk_drewN | apply blk_drew | apply blk_alloc); refine blk_far ?_ NB218_225.out _; (with_reducible repeat first | apply blk_drewN | apply blk_drew | apply blk_alloc); refine blk_far ?_ NB218_225.out _; (with_reducible repeat first | apply blk_drewN | apply blk_drew | apply blk_alloc); exact BK218.out) hb); have n2_ := Aside0.mk (blk_below (g := gb225) (o := .cells #[.int .i64 t220, .int .i64 t221, .int .i64 t222, .int .i64 t223] 26 (0, 0)) (by (with_reducible repeat first | apply blk_drewN | apply blk_drew | apply blk_alloc); refine blk_put (cs := #[.int .i64 t220, .int .i64 t221, .int .i64 t222, .int .i64 0]) ?_ 3 _ rfl; (with_reducible repeat first | apply blk_drewN | apply blk_drew | apply blk_alloc); refine blk_put (cs := #[.int .i64 t220, .int .i64 t221, .int .i64 0, .int .i64 0]) ?_ 2 _ rfl; (with_reducible repeat first | apply blk_drewN | apply blk_drew | apply blk_alloc); refine blk_put (cs := #[.int .i64 t220, .int .i64 0, .int .i64 0, .int .i64 0]) ?_ 1 _ rfl; (with_reducible repeat first | apply blk_drewN | apply blk_drew | apply blk_alloc); refine blk_put (cs := #[.int .i64 0, .int .i64 0, .int .i64 0, .int .i64 0]) ?_ 0 _ rfl; (with_reducible repeat first | apply blk_drewN | apply blk_drew | apply blk_alloc); exact BK225.out) hb); have n3_ := Aside0.mk (below_step (by repeat (first | (with_reducible first | exact HB.out | apply below_alloc | apply pw_below_drewN | apply below_drew1 | refine below_set ?_ GE218.out | refine below_set ?_ GE225.out) | exact HB.out)) hb); clear HO_5; clear BK218; clear BK225; clear HB; have HO_5 := n0_; have BK218 := n1_; have BK225 := n2_; have HB := n3_; clear n0_ n1_ n2_ n3_; (try clear hb); (try clear hb2); (try clear hk); (try clear hi); have hcz86_0 : w85.cell? ⟨gb225, 0, none⟩ = some (.int .i64 t220) := (blk_cell BK225.out 0).trans rfl; have hcz86_1 : w85.cell? ⟨gb225, 1, none⟩ = some (.int .i64 t221) := (blk_cell BK225.out 1).trans rfl; have hcz86_2 : w85.cell? ⟨gb225, 2, none⟩ = some (.int .i64 t222) := (blk_cell BK225.out 2).trans rfl; have hcz86_3 : w85.cell? ⟨gb225, 3, none⟩ = some (.int .i64 t223) := (blk_cell BK225.out 3).trans rfl; have hfz86_0 := blk_frozen BK225.out 0; have hfz86_1 := blk_frozen BK225.out 1; have hfz86_2 := blk_frozen BK225.out 2; have hfz86_3 := blk_frozen BK225.out 3) | ((with_reducible refine gate_builtin (b := .append) (xs := #[.tmp 45, .tmp 47]) rfl ?_); at_builtin; refine Kd.R_append k26 (w0 := w) w.heap.size rfl (.tmp 45) (.tmp 47) 39 26 (.agg #[(.int .i64 0), (.int .i64 0), (.int .i64 0), (.int .i64 0)]) 32 rfl Try.underlying39 info26 rfl (by decide) (by omega) (.slice (some ad219) x5_2.length co75) x5_2 (⟨(⟨t220, t221⟩ : S22), (⟨t222, t223⟩ : S22)⟩ : S26) [.int .i64 t220, .int .i64 t221, .int .i64 t222, .int .i64 t223] (fun k_ => k_ ≠ gb218 ∧ k_ ≠ gb225) (fun _ => False) rfl rfl ?aP (fun _ hk => hk.elim) ?aF ?aO ?aB ?aS ?aL ?_; (case aP => exact k26_mkM _ _ _ (⟨(⟨t220, t221⟩ : S22), (⟨t222, t223⟩ : S22)⟩ : S26)); (case aB => exact (by repeat (first | (with_reducible first | exact HB.out | apply below_alloc | apply pw_below_drewN | apply below_drew1 | refine below_set ?_ GE218.out | refine below_set ?_ GE225.out) | exact HB.out))); (case aF => exact (fun k_ hk => ⟨Kd.freshB (g := gb218) (o := .cells #[.int .i64 ((rd_T26 l0 x26_2).f0.f0), .int .i64 ((rd_T26 l0 x26_2).f0.f1), .int .i64 ((rd_T26 l0 x26_2).f1.f0), .int .i64 ((rd_T26 l0 x26_2).f1.f1)] 26 (0, 0)) (by (with_reducible repeat first | apply blk_drewN | apply blk_drew | apply blk_alloc); exact BK218.out) k_ hk, Kd.freshB (g := gb225) (o := .cells #[.int .i64 t220, .int .i64 t221, .int .i64 t222, .int .i64 t223] 26 (0, 0)) (by (with_reducible repeat first | apply blk_drewN | apply blk_drew | apply blk_alloc); exact BK225.out) k_ hk⟩)); (case aO => exact (by (with_reducible repeat (first | apply Kd.R_alloc | apply Kd.R_drewN | apply Kd.R_drew)); exact HO_5.out)); (case aS => exact (below_size (by repeat (first | (with_reducible first | exact HB.out | apply below_alloc | apply pw_below_drewN | apply below_drew1 | refine below_set ?_ GE218.out | refine below_set ?_ GE225.out) | exact HB.out)))); (case aL => have := LMc51.out; omega); intro v228 w87 ho hb hg hat; rw [← Ny227.out] at ho; have n0_ := Aside0.mk (blk_grown (g := gb218) (o := .cells #[.int .i64 ((rd_T26 l0 x26_2).f0.f0), .int .i64 ((rd_T26 l0 x26_2).f0.f1), .int .i64 ((rd_T26 l0 x26_2).f1.f0), .int .i64 ((rd_T26 l0 x26_2).f1.f1)] 26 (0, 0)) (by (with_reducible repeat first | apply blk_drewN | apply blk_drew | apply blk_alloc); exact BK218.out) hg (Kd.R_away HO_5.out (fun _ hk => hk.1))); have n1_ := Aside0.mk (blk_grown (g := gb225) (o := .cells #[.int .i64 t220, .int .i64 t221, .int .i64 t222, .int .i64 t223] 26 (0, 0)) (by (with_reducible repeat first | apply blk_drewN | apply blk_drew | apply blk_alloc); exact BK225.out) hg (Kd.R_away HO_5.out (fun _ hk => hk.2))); have n2_ := Aside0.mk (hb); have n3_ := Aside0.mk (ho); clear BK218; clear BK225; clear HB; clear HO_5; have BK218 := n0_; have BK225 := n1_; have HB := n2_; have HO229 := n3_; clear n0_ n1_ n2_ n3_; clear ho hb hg hat; obtain ⟨Ao88, co88, eo88⟩ := Kd.R_slice HO229.out; subst eo88))
                go_roundg k2
                case measure => have := HK1.out; have := HK2.out; omega
                case rel => exact ⟨(y227), (wrap64 (x26_2 + 1)), (by first | rfl | (simp; done) | (simp [*]; done) | (simp [wrap64]; done)), H', ⟨by have := HK1.out; have := HK2.out; omega⟩, ⟨by (with_reducible repeat (first | apply Kd.R_alloc | apply Kd.R_drewN | apply Kd.R_drew)); exact Kd.R_mono HO229.out (fun _ hk => trivial)⟩, ⟨by repeat (first | (with_reducible first | exact HB.out | apply below_alloc | apply pw_below_drewN | apply below_drew1 | refine below_set ?_ GE218.out | refine below_set ?_ GE225.out) | exact HB.out)⟩⟩
              ·rw [if_neg c51] at H
               exact absurd H (by simp)
            ·replace c17 := Bool.eq_false_iff.mpr c17
             subst c17
             have H1 : (some (([] : List (S26)), 3)) = some (r1, r2) := by rw [if_neg (show ¬ (false = true) by decide)] at H; exact H
             clear H
             have H := H1
             clear H1
             simp only [Option.some.injEq, Prod.mk.injEq] at H
             obtain ⟨rfl, rfl⟩ := H
             have p217 : 0 ≤ (x26_2 : Int) := of_decide_eq_true (by first | (with_reducible assumption) | assumption)
             have q217 : x26_2 < (l0.length : Int) := of_decide_eq_true (by first | (with_reducible assumption) | assumption)
             obtain ⟨ad217, e217, hx217_0, hx217_1, hx217_2, hx217_3⟩ := at_T26 HR0.out x26_2 p217 q217
             cases e217
             replace hx217_0 := clTr HB.out hx217_0
             replace hx217_1 := clTr HB.out hx217_1
             replace hx217_2 := clTr HB.out hx217_2
             replace hx217_3 := clTr HB.out hx217_3
             replace p217 := eq_true p217
             replace q217 := eq_true q217
             try go_wp2_with (first | ((with_reducible refine gate_dst (N := 8) rfl ?_); refine box_event ?hg (N := 8) ?hd (cs := #[.int .i64 0, .int .i64 0, .int .i64 0, .int .i64 0]) (t := 26) ?hr ?_; (case hd => rfl); (case hg => rfl); (case hr => first | (go_simp; done) | (go_simp; rfl)); intro gb218 hg w89 hbox hb; have n0_ := Aside0.mk (Kd.R_below (Kd.R_elderB (by (with_reducible repeat (first | apply Kd.R_alloc | apply Kd.R_drewN | apply Kd.R_drew)); exact HO_5.out) gb218 (Nat.le_of_eq hg.symm)) hb); have n1_ := Aside0.mk (below_step (by repeat (first | (with_reducible first | exact HB.out | apply below_alloc | apply pw_below_drewN | apply below_drew1) | exact HB.out)) hb); have n2_ := Aside0.mk (hbox); have n3_ := Aside0.mk ((by rw [hg]; exact (below_size (by repeat (first | (with_reducible first | exact HB.out | apply below_alloc | apply pw_below_drewN | apply below_drew1) | exact HB.out))) : w.heap.size ≤ gb218)); have n4_ := Aside0.mk ((by rw [hg]; exact (below_size (by repeat (first | (with_reducible first | exact HB.out | apply below_alloc | apply pw_below_drewN | apply below_drew1) | exact HB.out))) : w.heap.size ≤ gb218)); clear HO_5; clear HB; have HO_5 := n0_; have HB := n1_; have BK218 := n2_; have GW218 := n3_; have GE218 := n4_; clear n0_ n1_ n2_ n3_ n4_; clear hb hbox hg; have hcz90_0 : w89.cell? ⟨gb218, 0, none⟩ = some (.int .i64 0) := (blk_cell BK218.out 0).trans rfl; have hcz90_1 : w89.cell? ⟨gb218, 1, none⟩ = some (.int .i64 0) := (blk_cell BK218.out 1).trans rfl; have hcz90_2 : w89.cell? ⟨gb218, 2, none⟩ = some (.int .i64 0) := (blk_cell BK218.out 2).trans rfl; have hcz90_3 : w89.cell? ⟨gb218, 3, none⟩ = some (.int .i64 0) := (blk_cell BK218.out 3).trans rfl; have hfz90_0 := blk_frozen BK218.out 0; have hfz90_1 := blk_frozen BK218.out 1; have hfz90_2 := blk_frozen BK218.out 2; have hfz90_3 := blk_frozen BK218.out 3))
             have n0_ : Aside0 (Kd.R k26 26 ((((w89.setCell ⟨gb218, 0, none⟩ (.int .i64 ((rd_T26 l0 x26_2).f0.f0))).setCell ⟨gb218, 1, none⟩ (.int .i64 ((rd_T26 l0 x26_2).f0.f1))).setCell ⟨gb218, 2, none⟩ (.int .i64 ((rd_T26 l0 x26_2).f1.f0))).setCell ⟨gb218, 3, none⟩ (.int .i64 ((rd_T26 l0 x26_2).f1.f1))) w.heap.size (fun k_ => k_ ≠ gb218) u5 x5_2) := ⟨by (with_reducible repeat (first | apply Kd.R_alloc | apply Kd.R_drewN | apply Kd.R_drew)); exact Kd.R_mono (Kd.R_far (p := ⟨gb218, 3, none⟩) (Kd.R_far (p := ⟨gb218, 2, none⟩) (Kd.R_far (p := ⟨gb218, 1, none⟩) (Kd.R_far (p := ⟨gb218, 0, none⟩) (Kd.R_mono HO_5.out (fun k_ hk => (⟨hk, hk.2⟩ : _ ∧ k_ ≠ gb218))) (fun _ hk => hk.2) (.int .i64 ((rd_T26 l0 x26_2).f0.f0))) (fun _ hk => hk.2) (.int .i64 ((rd_T26 l0 x26_2).f0.f1))) (fun _ hk => hk.2) (.int .i64 ((rd_T26 l0 x26_2).f1.f0))) (fun _ hk => hk.2) (.int .i64 ((rd_T26 l0 x26_2).f1.f1))) (fun _ hk => hk.1.2)⟩
             have n1_ : Aside0 (((((w89.setCell ⟨gb218, 0, none⟩ (.int .i64 ((rd_T26 l0 x26_2).f0.f0))).setCell ⟨gb218, 1, none⟩ (.int .i64 ((rd_T26 l0 x26_2).f0.f1))).setCell ⟨gb218, 2, none⟩ (.int .i64 ((rd_T26 l0 x26_2).f1.f0))).setCell ⟨gb218, 3, none⟩ (.int .i64 ((rd_T26 l0 x26_2).f1.f1))).heap[gb218]? = some (.cells #[.int .i64 ((rd_T26 l0 x26_2).f0.f0), .int .i64 ((rd_T26 l0 x26_2).f0.f1), .int .i64 ((rd_T26 l0 x26_2).f1.f0), .int .i64 ((rd_T26 l0 x26_2).f1.f1)] 26 (0, 0))) := ⟨by (with_reducible repeat first | apply blk_drewN | apply blk_drew | apply blk_alloc); refine blk_put (cs := #[.int .i64 ((rd_T26 l0 x26_2).f0.f0), .int .i64 ((rd_T26 l0 x26_2).f0.f1), .int .i64 ((rd_T26 l0 x26_2).f1.f0), .int .i64 0]) ?_ 3 _ rfl; (with_reducible repeat first | apply blk_drewN | apply blk_drew | apply blk_alloc); refine blk_put (cs := #[.int .i64 ((rd_T26 l0 x26_2).f0.f0), .int .i64 ((rd_T26 l0 x26_2).f0.f1), .int .i64 0, .int .i64 0]) ?_ 2 _ rfl; (with_reducible repeat first | apply blk_drewN | apply blk_drew | apply blk_alloc); refine blk_put (cs := #[.int .i64 ((rd_T26 l0 x26_2).f0.f0), .int .i64 0, .int .i64 0, .int .i64 0]) ?_ 1 _ rfl; (with_reducible repeat first | apply blk_drewN | apply blk_drew | apply blk_alloc); refine blk_put (cs := #[.int .i64 0, .int .i64 0, .int .i64 0, .int .i64 0]) ?_ 0 _ rfl; (with_reducible repeat first | apply blk_drewN | apply blk_drew | apply blk_alloc); exact BK218.out⟩
             have n2_ : Aside0 (Below w.heap.size w ((((w89.setCell ⟨gb218, 0, none⟩ (.int .i64 ((rd_T26 l0 x26_2).f0.f0))).setCell ⟨gb218, 1, none⟩ (.int .i64 ((rd_T26 l0 x26_2).f0.f1))).setCell ⟨gb218, 2, none⟩ (.int .i64 ((rd_T26 l0 x26_2).f1.f0))).setCell ⟨gb218, 3, none⟩ (.int .i64 ((rd_T26 l0 x26_2).f1.f1)))) := ⟨by repeat (first | (with_reducible first | exact HB.out | apply below_alloc | apply pw_below_drewN | apply below_drew1 | refine below_set ?_ GE218.out) | exact HB.out)⟩
             (try clear HO_5)
             (try clear BK218)
             (try clear HB)
             generalize ((((w89.setCell ⟨gb218, 0, none⟩ (.int .i64 ((rd_T26 l0 x26_2).f0.f0))).setCell ⟨gb218, 1, none⟩ (.int .i64 ((rd_T26 l0 x26_2).f0.f1))).setCell ⟨gb218, 2, none⟩ (.int .i64 ((rd_T26 l0 x26_2).f1.f0))).setCell ⟨gb218, 3, none⟩ (.int .i64 ((rd_T26 l0 x26_2).f1.f1))) = w91 at n0_ n1_ n2_ ⊢
             have HO_5 := n0_
             have BK218 := n1_
             have HB := n2_
             clear n0_ n1_ n2_
             have n0_ := Aside0.mk (Kd.R_drew HO_5.out)
             have n1_ := Aside0.mk (blk_drew BK218.out)
             have n2_ := Aside0.mk (below_drew1 HB.out)
             clear HO_5
             clear BK218
             clear HB
             have HO_5 := n0_
             have BK218 := n1_
             have HB := n2_
             clear n0_ n1_ n2_
             obtain ⟨Ao93, co93, eo93⟩ := Kd.R_slice HO_5.out
             (first | subst eo93 | (injection eo93 with f1_ f2_ f3_; have f4_ := f1_.symm; have f5_ := f3_.symm; clear f1_ f2_ f3_; subst f4_; subst f5_))
             have p219 : 0 ≤ (x6_1 : Int) := of_decide_eq_true (by first | (with_reducible assumption) | assumption)
             have q219 : x6_1 < (x5_2.length : Int) := of_decide_eq_true (by first | (with_reducible assumption) | assumption)
             obtain ⟨ad219, e219, hx219_0, hx219_1, hx219_2, hx219_3⟩ := at_T26 (Kd.R_reads' HO_5.out).2.2 x6_1 p219 q219
             cases e219
             replace p219 := eq_true p219
             replace q219 := eq_true q219
             refine start_ (n := 12) (S := fun w' => w'.cell? ⟨gb218, 0, none⟩ = some (.int .i64 ((rd_T26 l0 x26_2).f0.f0)) ∧ w'.cell? ⟨gb218, 1, none⟩ = some (.int .i64 ((rd_T26 l0 x26_2).f0.f1)) ∧ w'.cell? ⟨gb218, 2, none⟩ = some (.int .i64 ((rd_T26 l0 x26_2).f1.f0)) ∧ w'.cell? ⟨gb218, 3, none⟩ = some (.int .i64 ((rd_T26 l0 x26_2).f1.f1)) ∧ w'.cell? (ad219.add ((x6_1).toNat * 4)) = some (.int .i64 ((rd_T26 x5_2 x6_1).f0.f0)) ∧ w'.cell? ⟨(ad219.add ((x6_1).toNat * 4)).block, (ad219.add ((x6_1).toNat * 4)).off + 1, none⟩ = some (.int .i64 ((rd_T26 x5_2 x6_1).f0.f1)) ∧ w'.cell? ⟨(ad219.add ((x6_1).toNat * 4)).block, (ad219.add ((x6_1).toNat * 4)).off + 2, none⟩ = some (.int .i64 ((rd_T26 x5_2 x6_1).f1.f0)) ∧ w'.cell? ⟨(ad219.add ((x6_1).toNat * 4)).block, (ad219.add ((x6_1).toNat * 4)).off + 3, none⟩ = some (.int .i64 ((rd_T26 x5_2 x6_1).f1.f1))) (ds := []) #[false, false, false, false, false, false, false, false, false, false, false, false] (by kernel_rfl) rfl rfl ⟨(blk_cell BK218.out 0).trans rfl, (blk_cell BK218.out 1).trans rfl, (blk_cell BK218.out 2).trans rfl, (blk_cell BK218.out 3).trans rfl, hx219_0, hx219_1, hx219_2, hx219_3⟩ (fun hHeld => ?_); refine with_tabW impl_GroupOf.tab11 impl_GroupOf.bits11 (fun HT_ HW_ => ?_)
             generalize w91.drew = w92 at HO_5 BK218 HB hx219_0 hx219_1 hx219_2 hx219_3 hHeld ⊢
             refine pure_ (i := 0) (N := some 31) (v := ?_) (a' := ?_) #[true, false, false, false, false, false, false, false, false, false, false, false] rfl rfl (any_of HT_.out (by kernel_rfl)) (fun _ _ _ h => h) (Or.inl ⟨by rfl, ?_⟩) ?_ ?_
             rotate_left
             ·intro w'
              go_simp
              with_reducible rfl
             rotate_left
             ·simp only [Act.put, lstS, lstZ, lstC, i64_w, i32_w]
              rfl
             refine pure_ (i := 1) (N := some 32) (v := ?_) (a' := ?_) #[true, true, false, false, false, false, false, false, false, false, false, false] rfl rfl (any_of HT_.out (by kernel_rfl)) (fun _ _ _ h => h) (Or.inl ⟨by rfl, ?_⟩) ?_ ?_
             rotate_left
             ·intro w'
              go_simp
              with_reducible rfl
             rotate_left
             ·simp only [Act.put, lstS, lstZ, lstC, i64_w, i32_w]
              rfl
             refine pure_ (i := 2) (N := some 33) (v := ?_) (a' := ?_) #[true, true, true, false, false, false, false, false, false, false, false, false] rfl rfl (any_of HT_.out (by kernel_rfl)) (fun _ _ _ h => h) (Or.inl ⟨by rfl, ?_⟩) ?_ ?_
             rotate_left
             ·intro w'
              go_simp
              with_reducible rfl
             rotate_left
             ·simp only [Act.put, lstS, lstZ, lstC, i64_w, i32_w]
              rfl
             refine take_ (i := 3) (N := some 34) (v := ?_) (a' := ?_) #[true, true, true, true, false, false, false, false, false, false, false, false] rfl rfl (take_ofW HT_.out HW_.out (by kernel_rfl)) (fun _ _ _ h => h) (Or.inl ⟨by rfl, ?_⟩) hHeld ?_ ?_
             rotate_left
             ·rintro w' ⟨s0, s1, s2, s3, s4, s5, s6, s7⟩
              go_simp
              with_reducible rfl
             rotate_left
             ·simp only [Act.put, lstS, lstZ, lstC, i64_w, i32_w]
              rfl
             refine take_ (i := 4) (N := some 35) (v := ?_) (a' := ?_) #[true, true, true, true, true, false, false, false, false, false, false, false] rfl rfl (take_ofW HT_.out HW_.out (by kernel_rfl)) (fun _ _ _ h => h) (Or.inl ⟨by rfl, ?_⟩) hHeld ?_ ?_
             rotate_left
             ·rintro w' ⟨s0, s1, s2, s3, s4, s5, s6, s7⟩
              go_simp
              with_reducible rfl
             rotate_left
             ·simp only [Act.put, lstS, lstZ, lstC, i64_w, i32_w]
              rfl
             refine join_ (σ := Nat) 2 #[true, true, true, true, true, true, true, true, true, true, false, false] (fun s_ => [(36, .tuple #[.agg #[.int .i64 t220, .int .i64 t221, .int .i64 t222, .int .i64 t223], .bool false]), (9, .pointer (some ⟨s_, 0, none⟩)), (30, .tuple #[.agg #[.int .i64 t220, .int .i64 t221, .int .i64 t222, .int .i64 t223], .bool false]), (37, .agg #[.int .i64 t220, .int .i64 t221, .int .i64 t222, .int .i64 t223]), (38, .bool false)]) (fun s_ w' => (w'.cell? ⟨gb218, 0, none⟩ = some (.int .i64 ((rd_T26 l0 x26_2).f0.f0)) ∧ w'.cell? ⟨gb218, 1, none⟩ = some (.int .i64 ((rd_T26 l0 x26_2).f0.f1)) ∧ w'.cell? ⟨gb218, 2, none⟩ = some (.int .i64 ((rd_T26 l0 x26_2).f1.f0)) ∧ w'.cell? ⟨gb218, 3, none⟩ = some (.int .i64 ((rd_T26 l0 x26_2).f1.f1)) ∧ w'.cell? (ad219.add ((x6_1).toNat * 4)) = some (.int .i64 ((rd_T26 x5_2 x6_1).f0.f0)) ∧ w'.cell? ⟨(ad219.add ((x6_1).toNat * 4)).block, (ad219.add ((x6_1).toNat * 4)).off + 1, none⟩ = some (.int .i64 ((rd_T26 x5_2 x6_1).f0.f1)) ∧ w'.cell? ⟨(ad219.add ((x6_1).toNat * 4)).block, (ad219.add ((x6_1).toNat * 4)).off + 2, none⟩ = some (.int .i64 ((rd_T26 x5_2 x6_1).f1.f0)) ∧ w'.cell? ⟨(ad219.add ((x6_1).toNat * 4)).block, (ad219.add ((x6_1).toNat * 4)).off + 3, none⟩ = some (.int .i64 ((rd_T26 x5_2 x6_1).f1.f1))) ∧ (Kd.R k26 26 w' w.heap.size (fun k_ => k_ ≠ gb218 ∧ k_ ≠ s_) (.slice (some ad219) x5_2.length co93) x5_2) ∧ (w'.heap[gb218]? = some (.cells #[.int .i64 ((rd_T26 l0 x26_2).f0.f0), .int .i64 ((rd_T26 l0 x26_2).f0.f1), .int .i64 ((rd_T26 l0 x26_2).f1.f0), .int .i64 ((rd_T26 l0 x26_2).f1.f1)] 26 (0, 0))) ∧ (w'.heap[s_]? = some (.cells #[.int .i64 0, .int .i64 0, .int .i64 0, .int .i64 0] 26 (0, 0))) ∧ (w.heap.size ≤ s_) ∧ (w.heap.size ≤ s_) ∧ (gb218 ≠ s_) ∧ (s_ ≠ gb218) ∧ (Below w.heap.size w w')) ?_ ?_
             rotate_left
             ·intro hCont
              refine two_ (i := 5) (j := 9) (Ni := some 36) (Nj := some 9) #[true, true, true, true, true, true, false, false, false, false, false, false] #[true, true, true, true, true, false, false, false, false, true, false, false] rfl rfl rfl rfl (two_of HT_.out (by kernel_rfl)) (by decide) (by decide) (fun K hK => ?_) (fun K hK => ?_)
              ·skip
               refine goes_ Try.func44 (by kernel_rfl) rfl #[.agg #[.int .i64 ((rd_T26 x5_2 x6_1).f0.f0), .int .i64 ((rd_T26 x5_2 x6_1).f0.f1), .int .i64 ((rd_T26 x5_2 x6_1).f1.f0), .int .i64 ((rd_T26 x5_2 x6_1).f1.f1)], .agg #[.int .i64 ((rd_T26 l0 x26_2).f0.f0), .int .i64 ((rd_T26 l0 x26_2).f0.f1), .int .i64 ((rd_T26 l0 x26_2).f1.f0), .int .i64 ((rd_T26 l0 x26_2).f1.f1)]] (by rfl) rfl rfl (by (try simp only [List.map_toArray, List.map_cons, List.map_nil]); first | done | rfl | (simp only [List.length_drop, List.length_take]; rfl)) ?_
               with_reducible refine (impl_product.calls k2 ((rd_T26 x5_2 x6_1).f0.f0) ((rd_T26 x5_2 x6_1).f0.f1) ((rd_T26 x5_2 x6_1).f1.f0) ((rd_T26 x5_2 x6_1).f1.f1) ((rd_T26 l0 x26_2).f0.f0) ((rd_T26 l0 x26_2).f0.f1) ((rd_T26 l0 x26_2).f1.f0) ((rd_T26 l0 x26_2).f1.f1) t220 t221 t222 t223 false _ A16.out).mono ?_
               rintro e w94 ⟨rfl, hb⟩
               have HS4_ := (hb.cell (World.block_lt_of_cell? _ _ (hHeld.2.2.2.2.1))).trans (hHeld.2.2.2.2.1)
               have HS5_ := (hb.cell (World.block_lt_of_cell? _ _ (hHeld.2.2.2.2.2.1))).trans (hHeld.2.2.2.2.2.1)
               have HS6_ := (hb.cell (World.block_lt_of_cell? _ _ (hHeld.2.2.2.2.2.2.1))).trans (hHeld.2.2.2.2.2.2.1)
               have HS7_ := (hb.cell (World.block_lt_of_cell? _ _ (hHeld.2.2.2.2.2.2.2))).trans (hHeld.2.2.2.2.2.2.2)
               refine ⟨_, rfl, ?_⟩
               have n0_ := Aside0.mk (Kd.R_below (by (with_reducible repeat (first | apply Kd.R_alloc | apply Kd.R_drewN | apply Kd.R_drew)); exact HO_5.out) hb)
               have n1_ := Aside0.mk (blk_below (g := gb218) (o := .cells #[.int .i64 ((rd_T26 l0 x26_2).f0.f0), .int .i64 ((rd_T26 l0 x26_2).f0.f1), .int .i64 ((rd_T26 l0 x26_2).f1.f0), .int .i64 ((rd_T26 l0 x26_2).f1.f1)] 26 (0, 0)) (by (with_reducible repeat first | apply blk_drewN | apply blk_drew | apply blk_alloc); exact BK218.out) hb)
               have n2_ := Aside0.mk (below_step (by repeat (first | (with_reducible first | exact HB.out | apply below_alloc | apply pw_below_drewN | apply below_drew1 | refine below_set ?_ GE218.out) | exact HB.out)) hb)
               clear HO_5
               clear BK218
               clear HB
               have HO_5 := n0_
               have BK218 := n1_
               have HB := n2_
               clear n0_ n1_ n2_
               (try clear hb)
               (try clear hb2)
               (try clear hk)
               (try clear hi)
               refine hK.out _ _ ⟨(blk_cell BK218.out 0).trans rfl, (blk_cell BK218.out 1).trans rfl, (blk_cell BK218.out 2).trans rfl, (blk_cell BK218.out 3).trans rfl, HS4_, HS5_, HS6_, HS7_⟩ (fun hHeld => ?_)
               clear hK K
               refine norm_ (a' := ?_) ?_ ?_
               rotate_left
               ·show Act.put _ (some 36) _ = _
                simp only [Act.put, lstS, lstZ, lstC, i64_w, i32_w]
                rfl
               refine pure_ (i := 6) (N := some 30) (v := ?_) (a' := ?_) #[true, true, true, true, true, true, true, false, false, false, false, false] rfl rfl (any_of HT_.out (by kernel_rfl)) (fun _ _ _ h => h) (Or.inl ⟨by rfl, ?_⟩) ?_ ?_
               rotate_left
               ·intro w'
                go_simp
                with_reducible rfl
               rotate_left
               ·simp only [Act.put, lstS, lstZ, lstC, i64_w, i32_w]
                rfl
               refine pure_ (i := 7) (N := some 37) (v := ?_) (a' := ?_) #[true, true, true, true, true, true, true, true, false, false, false, false] rfl rfl (any_of HT_.out (by kernel_rfl)) (fun _ _ _ h => h) (Or.inl ⟨by rfl, ?_⟩) ?_ ?_
               rotate_left
               ·intro w'
                go_simp
                with_reducible rfl
               rotate_left
               ·simp only [Act.put, lstS, lstZ, lstC, i64_w, i32_w]
                rfl
               refine pure_ (i := 8) (N := some 38) (v := ?_) (a' := ?_) #[true, true, true, true, true, true, true, true, true, false, false, false] rfl rfl (any_of HT_.out (by kernel_rfl)) (fun _ _ _ h => h) (Or.inl ⟨by rfl, ?_⟩) ?_ ?_
               rotate_left
               ·intro w'
                go_simp
                with_reducible rfl
               rotate_left
               ·simp only [Act.put, lstS, lstZ, lstC, i64_w, i32_w]
                rfl
               refine one_ (i := 9) (N := some 9) #[true, true, true, true, true, true, true, true, true, true, false, false] rfl rfl (one_of HT_.out (by kernel_rfl)) (by decide) (fun K hK => ?_)
               refine box_step ?hg (N := 9) ?hd (cs := #[.int .i64 0, .int .i64 0, .int .i64 0, .int .i64 0]) (t := 26) ?hr ?_; (case hd => rfl); (case hg => rfl); (case hr => first | (go_simp; done) | (go_simp; rfl))
               intro gb225 hg w95 hbox hb
               have HS4_ := (hb.cell (World.block_lt_of_cell? _ _ (hHeld.2.2.2.2.1))).trans (hHeld.2.2.2.2.1)
               have HS5_ := (hb.cell (World.block_lt_of_cell? _ _ (hHeld.2.2.2.2.2.1))).trans (hHeld.2.2.2.2.2.1)
               have HS6_ := (hb.cell (World.block_lt_of_cell? _ _ (hHeld.2.2.2.2.2.2.1))).trans (hHeld.2.2.2.2.2.2.1)
               have HS7_ := (hb.cell (World.block_lt_of_cell? _ _ (hHeld.2.2.2.2.2.2.2))).trans (hHeld.2.2.2.2.2.2.2)
               have n0_ := Aside0.mk (Kd.R_below (Kd.R_elderB (by (with_reducible repeat (first | apply Kd.R_alloc | apply Kd.R_drewN | apply Kd.R_drew)); exact HO_5.out) gb225 (Nat.le_of_eq hg.symm)) hb)
               have n1_ := Aside0.mk (blk_below (g := gb218) (o := .cells #[.int .i64 ((rd_T26 l0 x26_2).f0.f0), .int .i64 ((rd_T26 l0 x26_2).f0.f1), .int .i64 ((rd_T26 l0 x26_2).f1.f0), .int .i64 ((rd_T26 l0 x26_2).f1.f1)] 26 (0, 0)) (by (with_reducible repeat first | apply blk_drewN | apply blk_drew | apply blk_alloc); exact BK218.out) hb)
               have n2_ := Aside0.mk (below_step (by repeat (first | (with_reducible first | exact HB.out | apply below_alloc | apply pw_below_drewN | apply below_drew1 | refine below_set ?_ GE218.out) | exact HB.out)) hb)
               have n3_ := Aside0.mk (hbox)
               have n4_ := Aside0.mk ((by rw [hg]; exact (below_size (by repeat (first | (with_reducible first | exact HB.out | apply below_alloc | apply pw_below_drewN | apply below_drew1 | refine below_set ?_ GE218.out) | exact HB.out))) : w.heap.size ≤ gb225))
               have n5_ := Aside0.mk ((by rw [hg]; exact (below_size (by repeat (first | (with_reducible first | exact HB.out | apply below_alloc | apply pw_below_drewN | apply below_drew1 | refine below_set ?_ GE218.out) | exact HB.out))) : w.heap.size ≤ gb225))
               have n6_ := Aside0.mk ((by rw [hg]; exact Nat.ne_of_lt (blk_lt (g := gb218) (o := .cells #[.int .i64 ((rd_T26 l0 x26_2).f0.f0), .int .i64 ((rd_T26 l0 x26_2).f0.f1), .int .i64 ((rd_T26 l0 x26_2).f1.f0), .int .i64 ((rd_T26 l0 x26_2).f1.f1)] 26 (0, 0)) (by (with_reducible repeat first | apply blk_drewN | apply blk_drew | apply blk_alloc); exact BK218.out)) : gb218 ≠ gb225))
               have n7_ := Aside0.mk ((by rw [hg]; exact Nat.ne_of_gt (blk_lt (g := gb218) (o := .cells #[.int .i64 ((rd_T26 l0 x26_2).f0.f0), .int .i64 ((rd_T26 l0 x26_2).f0.f1), .int .i64 ((rd_T26 l0 x26_2).f1.f0), .int .i64 ((rd_T26 l0 x26_2).f1.f1)] 26 (0, 0)) (by (with_reducible repeat first | apply blk_drewN | apply blk_drew | apply blk_alloc); exact BK218.out)) : gb225 ≠ gb218))
               clear HO_5
               clear BK218
               clear HB
               have HO_5 := n0_
               have BK218 := n1_
               have HB := n2_
               have BK225 := n3_
               have GW225 := n4_
               have GE225 := n5_
               have NB218_225 := n6_
               have NB225_218 := n7_
               clear n0_ n1_ n2_ n3_ n4_ n5_ n6_ n7_
               clear hb hbox hg
               refine hK.out _ _ ⟨(blk_cell BK218.out 0).trans rfl, (blk_cell BK218.out 1).trans rfl, (blk_cell BK218.out 2).trans rfl, (blk_cell BK218.out 3).trans rfl, HS4_, HS5_, HS6_, HS7_⟩ (fun hHeld => ?_)
               clear hK K
               refine norm_ (a' := ?_) ?_ ?_
               rotate_left
               ·show Act.put _ (some 9) _ = _
                simp only [Act.put, lstS, lstZ, lstC, i64_w, i32_w]
                rfl
               exact norm_ (by simp only [putAll, Act.put, lstS, lstZ, lstC]) (hCont (gb225) _ ⟨hHeld, (by (with_reducible repeat (first | apply Kd.R_alloc | apply Kd.R_drewN | apply Kd.R_drew)); exact HO_5.out), (by (with_reducible repeat first | apply blk_drewN | apply blk_drew | apply blk_alloc); exact BK218.out), (by (with_reducible repeat first | apply blk_drewN | apply blk_drew | apply blk_alloc); exact BK225.out), GW225.out, GE225.out, NB218_225.out, NB225_218.out, (by repeat (first | (with_reducible first | exact HB.out | apply below_alloc | apply pw_below_drewN | apply below_drew1 | refine below_set ?_ GE218.out | refine below_set ?_ GE225.out) | exact HB.out))⟩)
              ·skip
               refine box_step ?hg (N := 9) ?hd (cs := #[.int .i64 0, .int .i64 0, .int .i64 0, .int .i64 0]) (t := 26) ?hr ?_; (case hd => rfl); (case hg => rfl); (case hr => first | (go_simp; done) | (go_simp; rfl))
               intro gb225 hg w94 hbox hb
               have HS4_ := (hb.cell (World.block_lt_of_cell? _ _ (hHeld.2.2.2.2.1))).trans (hHeld.2.2.2.2.1)
               have HS5_ := (hb.cell (World.block_lt_of_cell? _ _ (hHeld.2.2.2.2.2.1))).trans (hHeld.2.2.2.2.2.1)
               have HS6_ := (hb.cell (World.block_lt_of_cell? _ _ (hHeld.2.2.2.2.2.2.1))).trans (hHeld.2.2.2.2.2.2.1)
               have HS7_ := (hb.cell (World.block_lt_of_cell? _ _ (hHeld.2.2.2.2.2.2.2))).trans (hHeld.2.2.2.2.2.2.2)
               have n0_ := Aside0.mk (Kd.R_below (Kd.R_elderB (by (with_reducible repeat (first | apply Kd.R_alloc | apply Kd.R_drewN | apply Kd.R_drew)); exact HO_5.out) gb225 (Nat.le_of_eq hg.symm)) hb)
               have n1_ := Aside0.mk (blk_below (g := gb218) (o := .cells #[.int .i64 ((rd_T26 l0 x26_2).f0.f0), .int .i64 ((rd_T26 l0 x26_2).f0.f1), .int .i64 ((rd_T26 l0 x26_2).f1.f0), .int .i64 ((rd_T26 l0 x26_2).f1.f1)] 26 (0, 0)) (by (with_reducible repeat first | apply blk_drewN | apply blk_drew | apply blk_alloc); exact BK218.out) hb)
               have n2_ := Aside0.mk (below_step (by repeat (first | (with_reducible first | exact HB.out | apply below_alloc | apply pw_below_drewN | apply below_drew1 | refine below_set ?_ GE218.out) | exact HB.out)) hb)
               have n3_ := Aside0.mk (hbox)
               have n4_ := Aside0.mk ((by rw [hg]; exact (below_size (by repeat (first | (with_reducible first | exact HB.out | apply below_alloc | apply pw_below_drewN | apply below_drew1 | refine below_set ?_ GE218.out) | exact HB.out))) : w.heap.size ≤ gb225))
               have n5_ := Aside0.mk ((by rw [hg]; exact (below_size (by repeat (first | (with_reducible first | exact HB.out | apply below_alloc | apply pw_below_drewN | apply below_drew1 | refine below_set ?_ GE218.out) | exact HB.out))) : w.heap.size ≤ gb225))
               have n6_ := Aside0.mk ((by rw [hg]; exact Nat.ne_of_lt (blk_lt (g := gb218) (o := .cells #[.int .i64 ((rd_T26 l0 x26_2).f0.f0), .int .i64 ((rd_T26 l0 x26_2).f0.f1), .int .i64 ((rd_T26 l0 x26_2).f1.f0), .int .i64 ((rd_T26 l0 x26_2).f1.f1)] 26 (0, 0)) (by (with_reducible repeat first | apply blk_drewN | apply blk_drew | apply blk_alloc); exact BK218.out)) : gb218 ≠ gb225))
               have n7_ := Aside0.mk ((by rw [hg]; exact Nat.ne_of_gt (blk_lt (g := gb218) (o := .cells #[.int .i64 ((rd_T26 l0 x26_2).f0.f0), .int .i64 ((rd_T26 l0 x26_2).f0.f1), .int .i64 ((rd_T26 l0 x26_2).f1.f0), .int .i64 ((rd_T26 l0 x26_2).f1.f1)] 26 (0, 0)) (by (with_reducible repeat first | apply blk_drewN | apply blk_drew | apply blk_alloc); exact BK218.out)) : gb225 ≠ gb218))
               clear HO_5
               clear BK218
               clear HB
               have HO_5 := n0_
               have BK218 := n1_
               have HB := n2_
               have BK225 := n3_
               have GW225 := n4_
               have GE225 := n5_
               have NB218_225 := n6_
               have NB225_218 := n7_
               clear n0_ n1_ n2_ n3_ n4_ n5_ n6_ n7_
               clear hb hbox hg
               refine hK.out _ _ ⟨(blk_cell BK218.out 0).trans rfl, (blk_cell BK218.out 1).trans rfl, (blk_cell BK218.out 2).trans rfl, (blk_cell BK218.out 3).trans rfl, HS4_, HS5_, HS6_, HS7_⟩ (fun hHeld => ?_)
               clear hK K
               refine norm_ (a' := ?_) ?_ ?_
               rotate_left
               ·show Act.put _ (some 9) _ = _
                simp only [Act.put, lstS, lstZ, lstC, i64_w, i32_w]
                rfl
               refine one_ (i := 5) (N := some 36) #[true, true, true, true, true, true, false, false, false, true, false, false] rfl rfl (one_of HT_.out (by kernel_rfl)) (by decide) (fun K hK => ?_)
               refine goes_ Try.func44 (by kernel_rfl) rfl #[.agg #[.int .i64 ((rd_T26 x5_2 x6_1).f0.f0), .int .i64 ((rd_T26 x5_2 x6_1).f0.f1), .int .i64 ((rd_T26 x5_2 x6_1).f1.f0), .int .i64 ((rd_T26 x5_2 x6_1).f1.f1)], .agg #[.int .i64 ((rd_T26 l0 x26_2).f0.f0), .int .i64 ((rd_T26 l0 x26_2).f0.f1), .int .i64 ((rd_T26 l0 x26_2).f1.f0), .int .i64 ((rd_T26 l0 x26_2).f1.f1)]] (by rfl) rfl rfl (by (try simp only [List.map_toArray, List.map_cons, List.map_nil]); first | done | rfl | (simp only [List.length_drop, List.length_take]; rfl)) ?_
               with_reducible refine (impl_product.calls k2 ((rd_T26 x5_2 x6_1).f0.f0) ((rd_T26 x5_2 x6_1).f0.f1) ((rd_T26 x5_2 x6_1).f1.f0) ((rd_T26 x5_2 x6_1).f1.f1) ((rd_T26 l0 x26_2).f0.f0) ((rd_T26 l0 x26_2).f0.f1) ((rd_T26 l0 x26_2).f1.f0) ((rd_T26 l0 x26_2).f1.f1) t220 t221 t222 t223 false _ A16.out).mono ?_
               rintro e w95 ⟨rfl, hb⟩
               have HS4_ := (hb.cell (World.block_lt_of_cell? _ _ (hHeld.2.2.2.2.1))).trans (hHeld.2.2.2.2.1)
               have HS5_ := (hb.cell (World.block_lt_of_cell? _ _ (hHeld.2.2.2.2.2.1))).trans (hHeld.2.2.2.2.2.1)
               have HS6_ := (hb.cell (World.block_lt_of_cell? _ _ (hHeld.2.2.2.2.2.2.1))).trans (hHeld.2.2.2.2.2.2.1)
               have HS7_ := (hb.cell (World.block_lt_of_cell? _ _ (hHeld.2.2.2.2.2.2.2))).trans (hHeld.2.2.2.2.2.2.2)
               refine ⟨_, rfl, ?_⟩
               have n0_ := Aside0.mk (Kd.R_below (by (with_reducible repeat (first | apply Kd.R_alloc | apply Kd.R_drewN | apply Kd.R_drew)); exact HO_5.out) hb)
               have n1_ := Aside0.mk (blk_below (g := gb218) (o := .cells #[.int .i64 ((rd_T26 l0 x26_2).f0.f0), .int .i64 ((rd_T26 l0 x26_2).f0.f1), .int .i64 ((rd_T26 l0 x26_2).f1.f0), .int .i64 ((rd_T26 l0 x26_2).f1.f1)] 26 (0, 0)) (by (with_reducible repeat first | apply blk_drewN | apply blk_drew | apply blk_alloc); exact BK218.out) hb)
               have n2_ := Aside0.mk (blk_below (g := gb225) (o := .cells #[.int .i64 0, .int .i64 0, .int .i64 0, .int .i64 0] 26 (0, 0)) (by (with_reducible repeat first | apply blk_drewN | apply blk_drew | apply blk_alloc); exact BK225.out) hb)
               have n3_ := Aside0.mk (below_step (by repeat (first | (with_reducible first | exact HB.out | apply below_alloc | apply pw_below_drewN | apply below_drew1 | refine below_set ?_ GE218.out | refine below_set ?_ GE225.out) | exact HB.out)) hb)
               clear HO_5
               clear BK218
               clear BK225
               clear HB
               have HO_5 := n0_
               have BK218 := n1_
               have BK225 := n2_
               have HB := n3_
               clear n0_ n1_ n2_ n3_
               (try clear hb)
               (try clear hb2)
               (try clear hk)
               (try clear hi)
               refine hK.out _ _ ⟨(blk_cell BK218.out 0).trans rfl, (blk_cell BK218.out 1).trans rfl, (blk_cell BK218.out 2).trans rfl, (blk_cell BK218.out 3).trans rfl, HS4_, HS5_, HS6_, HS7_⟩ (fun hHeld => ?_)
               clear hK K
               refine norm_ (a' := ?_) ?_ ?_
               rotate_left
               ·show Act.put _ (some 36) _ = _
                simp only [Act.put, lstS, lstZ, lstC, i64_w, i32_w]
                rfl
               refine pure_ (i := 6) (N := some 30) (v := ?_) (a' := ?_) #[true, true, true, true, true, true, true, false, false, true, false, false] rfl rfl (any_of HT_.out (by kernel_rfl)) (fun _ _ _ h => h) (Or.inl ⟨by rfl, ?_⟩) ?_ ?_
               rotate_left
               ·intro w'
                go_simp
                with_reducible rfl
               rotate_left
               ·simp only [Act.put, lstS, lstZ, lstC, i64_w, i32_w]
                rfl
               refine pure_ (i := 7) (N := some 37) (v := ?_) (a' := ?_) #[true, true, true, true, true, true, true, true, false, true, false, false] rfl rfl (any_of HT_.out (by kernel_rfl)) (fun _ _ _ h => h) (Or.inl ⟨by rfl, ?_⟩) ?_ ?_
               rotate_left
               ·intro w'
                go_simp
                with_reducible rfl
               rotate_left
               ·simp only [Act.put, lstS, lstZ, lstC, i64_w, i32_w]
                rfl
               refine pure_ (i := 8) (N := some 38) (v := ?_) (a' := ?_) #[true, true, true, true, true, true, true, true, true, true, false, false] rfl rfl (any_of HT_.out (by kernel_rfl)) (fun _ _ _ h => h) (Or.inl ⟨by rfl, ?_⟩) ?_ ?_
               rotate_left
               ·intro w'
                go_simp
                with_reducible rfl
               rotate_left
               ·simp only [Act.put, lstS, lstZ, lstC, i64_w, i32_w]
                rfl
               exact norm_ (by simp only [putAll, Act.put, lstS, lstZ, lstC]) (hCont (gb225) _ ⟨hHeld, (by (with_reducible repeat (first | apply Kd.R_alloc | apply Kd.R_drewN | apply Kd.R_drew)); exact HO_5.out), (by (with_reducible repeat first | apply blk_drewN | apply blk_drew | apply blk_alloc); exact BK218.out), (by (with_reducible repeat first | apply blk_drewN | apply blk_drew | apply blk_alloc); exact BK225.out), GW225.out, GE225.out, NB218_225.out, NB225_218.out, (by repeat (first | (with_reducible first | exact HB.out | apply below_alloc | apply pw_below_drewN | apply below_drew1 | refine below_set ?_ GE218.out | refine below_set ?_ GE225.out) | exact HB.out))⟩)
             rintro gb225 w96 ⟨hS_, h0_, h1_, h2_, h3_, h4_, h5_, h6_, h7_⟩
             have n0_ : Aside0 (Kd.R k26 26 w96 w.heap.size (fun k_ => k_ ≠ gb218 ∧ k_ ≠ gb225) (.slice (some ad219) x5_2.length co93) x5_2) := ⟨h0_⟩
             have n1_ : Aside0 (w96.heap[gb218]? = some (.cells #[.int .i64 ((rd_T26 l0 x26_2).f0.f0), .int .i64 ((rd_T26 l0 x26_2).f0.f1), .int .i64 ((rd_T26 l0 x26_2).f1.f0), .int .i64 ((rd_T26 l0 x26_2).f1.f1)] 26 (0, 0))) := ⟨h1_⟩
             have n2_ : Aside0 (w96.heap[gb225]? = some (.cells #[.int .i64 0, .int .i64 0, .int .i64 0, .int .i64 0] 26 (0, 0))) := ⟨h2_⟩
             have n3_ : Aside0 (w.heap.size ≤ gb225) := ⟨h3_⟩
             have n4_ : Aside0 (w.heap.size ≤ gb225) := ⟨h4_⟩
             have n5_ : Aside0 (gb218 ≠ gb225) := ⟨h5_⟩
             have n6_ : Aside0 (gb225 ≠ gb218) := ⟨h6_⟩
             have n7_ : Aside0 (Below w.heap.size w w96) := ⟨h7_⟩
             clear HO_5
             clear BK218
             clear HB
             clear h0_ h1_ h2_ h3_ h4_ h5_ h6_ h7_
             have HO_5 := n0_
             have BK218 := n1_
             have BK225 := n2_
             have GW225 := n3_
             have GE225 := n4_
             have NB218_225 := n5_
             have NB225_218 := n6_
             have HB := n7_
             clear n0_ n1_ n2_ n3_ n4_ n5_ n6_ n7_
             have hHeld : w96.cell? ⟨gb218, 0, none⟩ = some (.int .i64 ((rd_T26 l0 x26_2).f0.f0)) ∧ w96.cell? ⟨gb218, 1, none⟩ = some (.int .i64 ((rd_T26 l0 x26_2).f0.f1)) ∧ w96.cell? ⟨gb218, 2, none⟩ = some (.int .i64 ((rd_T26 l0 x26_2).f1.f0)) ∧ w96.cell? ⟨gb218, 3, none⟩ = some (.int .i64 ((rd_T26 l0 x26_2).f1.f1)) ∧ w96.cell? (ad219.add ((x6_1).toNat * 4)) = some (.int .i64 ((rd_T26 x5_2 x6_1).f0.f0)) ∧ w96.cell? ⟨(ad219.add ((x6_1).toNat * 4)).block, (ad219.add ((x6_1).toNat * 4)).off + 1, none⟩ = some (.int .i64 ((rd_T26 x5_2 x6_1).f0.f1)) ∧ w96.cell? ⟨(ad219.add ((x6_1).toNat * 4)).block, (ad219.add ((x6_1).toNat * 4)).off + 2, none⟩ = some (.int .i64 ((rd_T26 x5_2 x6_1).f1.f0)) ∧ w96.cell? ⟨(ad219.add ((x6_1).toNat * 4)).block, (ad219.add ((x6_1).toNat * 4)).off + 3, none⟩ = some (.int .i64 ((rd_T26 x5_2 x6_1).f1.f1)) := hS_
             refine norm_ (a' := ?_) ?_ ?_
             rotate_left
             ·simp only [putAll, Act.put, lstS, lstZ, lstC]
              rfl
             refine one_ (i := 10) (N := none) #[true, true, true, true, true, true, true, true, true, true, true, false] rfl rfl (one_of HT_.out (by kernel_rfl)) (by decide) (fun K hK => ?_)
             have hs97 : w96.cell? ⟨gb225, 0, none⟩ = some (.int .i64 0) := (blk_cell BK225.out 0).trans rfl
             have hfs97 := blk_frozen BK225.out 0
             have hns97_0 := NB218_225.out
             have hms97_0 := NB225_218.out
             have hs98 : w96.cell? ⟨gb225, 1, none⟩ = some (.int .i64 0) := (blk_cell BK225.out 1).trans rfl
             have hfs98 := blk_frozen BK225.out 1
             have hns98_0 := NB218_225.out
             have hms98_0 := NB225_218.out
             have hs99 : w96.cell? ⟨gb225, 2, none⟩ = some (.int .i64 0) := (blk_cell BK225.out 2).trans rfl
             have hfs99 := blk_frozen BK225.out 2
             have hns99_0 := NB218_225.out
             have hms99_0 := NB225_218.out
             have hs100 : w96.cell? ⟨gb225, 3, none⟩ = some (.int .i64 0) := (blk_cell BK225.out 3).trans rfl
             have hfs100 := blk_frozen BK225.out 3
             have hns100_0 := NB218_225.out
             have hms100_0 := NB225_218.out
             refine skip_ (w1 := ?_) (by rfl) rfl ?_ ?_
             rotate_left
             ·go_simp
              rfl
             refine hK.out _ _ ⟨((cell_far (p := ⟨gb225, _, none⟩) NB218_225.out _).trans (((cell_far (p := ⟨gb225, _, none⟩) NB218_225.out _).trans (((cell_far (p := ⟨gb225, _, none⟩) NB218_225.out _).trans (((cell_far (p := ⟨gb225, _, none⟩) NB218_225.out _).trans (hHeld.1)))))))), ((cell_far (p := ⟨gb225, _, none⟩) NB218_225.out _).trans (((cell_far (p := ⟨gb225, _, none⟩) NB218_225.out _).trans (((cell_far (p := ⟨gb225, _, none⟩) NB218_225.out _).trans (((cell_far (p := ⟨gb225, _, none⟩) NB218_225.out _).trans (hHeld.2.1)))))))), ((cell_far (p := ⟨gb225, _, none⟩) NB218_225.out _).trans (((cell_far (p := ⟨gb225, _, none⟩) NB218_225.out _).trans (((cell_far (p := ⟨gb225, _, none⟩) NB218_225.out _).trans (((cell_far (p := ⟨gb225, _, none⟩) NB218_225.out _).trans (hHeld.2.2.1)))))))), ((cell_far (p := ⟨gb225, _, none⟩) NB218_225.out _).trans (((cell_far (p := ⟨gb225, _, none⟩) NB218_225.out _).trans (((cell_far (p := ⟨gb225, _, none⟩) NB218_225.out _).trans (((cell_far (p := ⟨gb225, _, none⟩) NB218_225.out _).trans (hHeld.2.2.2.1)))))))), ((cell_far (p := ⟨gb225, _, none⟩) (by first | exact Kd.own_blk (Kd.R_away HO_5.out (fun _ hk => hk.2)) | (rw [add_block]; exact Kd.own_blk (Kd.R_away HO_5.out (fun _ hk => hk.2))) | (show (Addr.add _ _).block ≠ _; rw [add_block]; exact Kd.own_blk (Kd.R_away HO_5.out (fun _ hk => hk.2))) | (dsimp only; exact Kd.own_blk (Kd.R_away HO_5.out (fun _ hk => hk.2)))) _).trans (((cell_far (p := ⟨gb225, _, none⟩) (by first | exact Kd.own_blk (Kd.R_away HO_5.out (fun _ hk => hk.2)) | (rw [add_block]; exact Kd.own_blk (Kd.R_away HO_5.out (fun _ hk => hk.2))) | (show (Addr.add _ _).block ≠ _; rw [add_block]; exact Kd.own_blk (Kd.R_away HO_5.out (fun _ hk => hk.2))) | (dsimp only; exact Kd.own_blk (Kd.R_away HO_5.out (fun _ hk => hk.2)))) _).trans (((cell_far (p := ⟨gb225, _, none⟩) (by first | exact Kd.own_blk (Kd.R_away HO_5.out (fun _ hk => hk.2)) | (rw [add_block]; exact Kd.own_blk (Kd.R_away HO_5.out (fun _ hk => hk.2))) | (show (Addr.add _ _).block ≠ _; rw [add_block]; exact Kd.own_blk (Kd.R_away HO_5.out (fun _ hk => hk.2))) | (dsimp only; exact Kd.own_blk (Kd.R_away HO_5.out (fun _ hk => hk.2)))) _).trans (((cell_far (p := ⟨gb225, _, none⟩) (by first | exact Kd.own_blk (Kd.R_away HO_5.out (fun _ hk => hk.2)) | (rw [add_block]; exact Kd.own_blk (Kd.R_away HO_5.out (fun _ hk => hk.2))) | (show (Addr.add _ _).block ≠ _; rw [add_block]; exact Kd.own_blk (Kd.R_away HO_5.out (fun _ hk => hk.2))) | (dsimp only; exact Kd.own_blk (Kd.R_away HO_5.out (fun _ hk => hk.2)))) _).trans (hHeld.2.2.2.2.1)))))))), ((cell_far (p := ⟨gb225, _, none⟩) (by first | exact Kd.own_blk (Kd.R_away HO_5.out (fun _ hk => hk.2)) | (rw [add_block]; exact Kd.own_blk (Kd.R_away HO_5.out (fun _ hk => hk.2))) | (show (Addr.add _ _).block ≠ _; rw [add_block]; exact Kd.own_blk (Kd.R_away HO_5.out (fun _ hk => hk.2))) | (dsimp only; exact Kd.own_blk (Kd.R_away HO_5.out (fun _ hk => hk.2)))) _).trans (((cell_far (p := ⟨gb225, _, none⟩) (by first | exact Kd.own_blk (Kd.R_away HO_5.out (fun _ hk => hk.2)) | (rw [add_block]; exact Kd.own_blk (Kd.R_away HO_5.out (fun _ hk => hk.2))) | (show (Addr.add _ _).block ≠ _; rw [add_block]; exact Kd.own_blk (Kd.R_away HO_5.out (fun _ hk => hk.2))) | (dsimp only; exact Kd.own_blk (Kd.R_away HO_5.out (fun _ hk => hk.2)))) _).trans (((cell_far (p := ⟨gb225, _, none⟩) (by first | exact Kd.own_blk (Kd.R_away HO_5.out (fun _ hk => hk.2)) | (rw [add_block]; exact Kd.own_blk (Kd.R_away HO_5.out (fun _ hk => hk.2))) | (show (Addr.add _ _).block ≠ _; rw [add_block]; exact Kd.own_blk (Kd.R_away HO_5.out (fun _ hk => hk.2))) | (dsimp only; exact Kd.own_blk (Kd.R_away HO_5.out (fun _ hk => hk.2)))) _).trans (((cell_far (p := ⟨gb225, _, none⟩) (by first | exact Kd.own_blk (Kd.R_away HO_5.out (fun _ hk => hk.2)) | (rw [add_block]; exact Kd.own_blk (Kd.R_away HO_5.out (fun _ hk => hk.2))) | (show (Addr.add _ _).block ≠ _; rw [add_block]; exact Kd.own_blk (Kd.R_away HO_5.out (fun _ hk => hk.2))) | (dsimp only; exact Kd.own_blk (Kd.R_away HO_5.out (fun _ hk => hk.2)))) _).trans (hHeld.2.2.2.2.2.1)))))))), ((cell_far (p := ⟨gb225, _, none⟩) (by first | exact Kd.own_blk (Kd.R_away HO_5.out (fun _ hk => hk.2)) | (rw [add_block]; exact Kd.own_blk (Kd.R_away HO_5.out (fun _ hk => hk.2))) | (show (Addr.add _ _).block ≠ _; rw [add_block]; exact Kd.own_blk (Kd.R_away HO_5.out (fun _ hk => hk.2))) | (dsimp only; exact Kd.own_blk (Kd.R_away HO_5.out (fun _ hk => hk.2)))) _).trans (((cell_far (p := ⟨gb225, _, none⟩) (by first | exact Kd.own_blk (Kd.R_away HO_5.out (fun _ hk => hk.2)) | (rw [add_block]; exact Kd.own_blk (Kd.R_away HO_5.out (fun _ hk => hk.2))) | (show (Addr.add _ _).block ≠ _; rw [add_block]; exact Kd.own_blk (Kd.R_away HO_5.out (fun _ hk => hk.2))) | (dsimp only; exact Kd.own_blk (Kd.R_away HO_5.out (fun _ hk => hk.2)))) _).trans (((cell_far (p := ⟨gb225, _, none⟩) (by first | exact Kd.own_blk (Kd.R_away HO_5.out (fun _ hk => hk.2)) | (rw [add_block]; exact Kd.own_blk (Kd.R_away HO_5.out (fun _ hk => hk.2))) | (show (Addr.add _ _).block ≠ _; rw [add_block]; exact Kd.own_blk (Kd.R_away HO_5.out (fun _ hk => hk.2))) | (dsimp only; exact Kd.own_blk (Kd.R_away HO_5.out (fun _ hk => hk.2)))) _).trans (((cell_far (p := ⟨gb225, _, none⟩) (by first | exact Kd.own_blk (Kd.R_away HO_5.out (fun _ hk => hk.2)) | (rw [add_block]; exact Kd.own_blk (Kd.R_away HO_5.out (fun _ hk => hk.2))) | (show (Addr.add _ _).block ≠ _; rw [add_block]; exact Kd.own_blk (Kd.R_away HO_5.out (fun _ hk => hk.2))) | (dsimp only; exact Kd.own_blk (Kd.R_away HO_5.out (fun _ hk => hk.2)))) _).trans (hHeld.2.2.2.2.2.2.1)))))))), ((cell_far (p := ⟨gb225, _, none⟩) (by first | exact Kd.own_blk (Kd.R_away HO_5.out (fun _ hk => hk.2)) | (rw [add_block]; exact Kd.own_blk (Kd.R_away HO_5.out (fun _ hk => hk.2))) | (show (Addr.add _ _).block ≠ _; rw [add_block]; exact Kd.own_blk (Kd.R_away HO_5.out (fun _ hk => hk.2))) | (dsimp only; exact Kd.own_blk (Kd.R_away HO_5.out (fun _ hk => hk.2)))) _).trans (((cell_far (p := ⟨gb225, _, none⟩) (by first | exact Kd.own_blk (Kd.R_away HO_5.out (fun _ hk => hk.2)) | (rw [add_block]; exact Kd.own_blk (Kd.R_away HO_5.out (fun _ hk => hk.2))) | (show (Addr.add _ _).block ≠ _; rw [add_block]; exact Kd.own_blk (Kd.R_away HO_5.out (fun _ hk => hk.2))) | (dsimp only; exact Kd.own_blk (Kd.R_away HO_5.out (fun _ hk => hk.2)))) _).trans (((cell_far (p := ⟨gb225, _, none⟩) (by first | exact Kd.own_blk (Kd.R_away HO_5.out (fun _ hk => hk.2)) | (rw [add_block]; exact Kd.own_blk (Kd.R_away HO_5.out (fun _ hk => hk.2))) | (show (Addr.add _ _).block ≠ _; rw [add_block]; exact Kd.own_blk (Kd.R_away HO_5.out (fun _ hk => hk.2))) | (dsimp only; exact Kd.own_blk (Kd.R_away HO_5.out (fun _ hk => hk.2)))) _).trans (((cell_far (p := ⟨gb225, _, none⟩) (by first | exact Kd.own_blk (Kd.R_away HO_5.out (fun _ hk => hk.2)) | (rw [add_block]; exact Kd.own_blk (Kd.R_away HO_5.out (fun _ hk => hk.2))) | (show (Addr.add _ _).block ≠ _; rw [add_block]; exact Kd.own_blk (Kd.R_away HO_5.out (fun _ hk => hk.2))) | (dsimp only; exact Kd.own_blk (Kd.R_away HO_5.out (fun _ hk => hk.2)))) _).trans (hHeld.2.2.2.2.2.2.2))))))))⟩ (fun hHeld => ?_)
             clear hK K
             refine pure_ (i := 11) (N := some 10) (v := ?_) (a' := ?_) #[true, true, true, true, true, true, true, true, true, true, true, true] rfl rfl (any_of HT_.out (by kernel_rfl)) (fun _ _ _ h => h) (Or.inl ⟨by rfl, ?_⟩) ?_ ?_
             rotate_left
             ·intro w'
              go_simp
              with_reducible rfl
             rotate_left
             ·simp only [Act.put, lstS, lstZ, lstC, i64_w, i32_w]
              rfl
             refine done_ (done_of HT_.out (by kernel_rfl)) ?_
             try go_wp2
             go_ret2
             exact ⟨_, by first | rfl | (simp [errW_none, errW_some] <;> rfl) | (simp [*, errW_none, errW_some] <;> rfl), by first | exact Kd.R_nil _ _ _ _ _ | exact Kd.N_nil _ _ _ _ _ | exact Kd.V_nil _ _ _ _ _ | exact Kd.Q_nil _ _ _ _ _ | exact Kd.S_nil _ _ _ _ _, by repeat (first | (with_reducible first | exact HB.out | apply below_alloc | apply pw_below_drewN | apply below_drew1 | refine below_set ?_ GE218.out | refine below_set ?_ GE225.out) | exact HB.out)⟩
           ·rw [if_neg c15] at H
            exact absurd H (by simp)
          ·rw [if_neg c14] at H
           exact absurd H (by simp)
         ·rw [if_neg c13] at H
          exact absurd H (by simp)
        ·rw [if_neg c12] at H
         exact absurd H (by simp)
       ·rw [if_neg c11] at H
        have c11b0 : decide (x26_2 < (l0.length : Int)) = false := decide_eq_false c11
        clear c11
        have H' := Aside0.mk H
        clear H
        go_wp2
        go_roundg k2
        case measure => have := HK1.out; have := HK2.out; omega
        case rel => exact ⟨(x5_2), (wrap64 (x6_1 + 1)), (by first | rfl | (simp; done) | (simp [*]; done) | (simp [wrap64]; done)), H', ⟨by have := HK1.out; have := HK2.out; omega⟩, ⟨by (with_reducible repeat (first | apply Kd.R_alloc | apply Kd.R_drewN | apply Kd.R_drew)); exact HO_5.out⟩, ⟨by repeat (first | (with_reducible first | exact HB.out | apply below_alloc | apply pw_below_drewN | apply below_drew1) | exact HB.out)⟩⟩
    ·rw [if_neg c9] at H
     have c9b0 : decide (x6_1 < (x5_1.length : Int)) = false := decide_eq_false c9
     clear c9
     simp only [Option.some.injEq, Prod.mk.injEq] at H
     obtain ⟨rfl, rfl⟩ := H
     obtain ⟨Ao101, co101, eo101⟩ := Kd.R_slice HO_5.out
     subst eo101
     go_wp2
     go_ret2
     exact ⟨_, by first | rfl | (simp [errW_none, errW_some] <;> rfl) | (simp [*, errW_none, errW_some] <;> rfl), by (with_reducible repeat (first | apply Kd.R_alloc | apply Kd.R_drewN | apply Kd.R_drew)); exact HO_5.out, by repeat (first | (with_reducible first | exact HB.out | apply below_alloc | apply pw_below_drewN | apply below_drew1) | exact HB.out)⟩
 ·rw [if_neg c3] at H
  have c3b0 : (t209 == 0) = false := beq_eq_false_iff_ne.mpr c3
  have c3b1 : (t209 != 0) = true := bne_iff_ne.mpr c3
  simp only [Option.some.injEq, Prod.mk.injEq] at H
  obtain ⟨rfl, rfl⟩ := H
  go_enter Try.func22, Try.ntmps22
  go_wp2_with (first | ((with_reducible refine gate_callee (f := 50) rfl ?_); refine goesL_ (some 12) rfl rfl Try.func50 (by kernel_rfl) rfl #[.slice A0 l0.length c0] rfl (by (try simp only [List.map_toArray, List.map_cons, List.map_nil]); first | done | rfl | (simp only [List.length_drop, List.length_take]; rfl)) ?_; (with_reducible refine (impl_moversCode.calls k _ _ l0 t209 _ ?side1 ?side2 A2.out).mono ?_); (case side1 => repeat (first | exact HR0.out | (with_reducible refine Kd.C_alloc ?_ _) | (with_reducible refine Kd.C_drewN ?_ _) | (with_reducible refine Kd.C_drew ?_))); (case side2 => exact HC0.out); rintro e w102 ⟨rfl, hb⟩; refine ⟨_, rfl, ?_⟩; have n0_ := Aside0.mk (below_step (by repeat (first | (with_reducible first | exact HB.out | apply below_alloc | apply pw_below_drewN | apply below_drew1) | exact HB.out)) hb); clear HB; have HB := n0_; clear n0_; (try clear hb); (try clear hb2); (try clear hk); (try clear hi)))
  go_ret2
  exact ⟨_, by first | rfl | (simp [errW_none, errW_some] <;> rfl) | (simp [*, errW_none, errW_some] <;> rfl), by first | exact Kd.R_nil _ _ _ _ _ | exact Kd.N_nil _ _ _ _ _ | exact Kd.V_nil _ _ _ _ _ | exact Kd.Q_nil _ _ _ _ _ | exact Kd.S_nil _ _ _ _ _, by repeat (first | (with_reducible first | exact HB.out | apply below_alloc | apply pw_below_drewN | apply below_drew1) | exact HB.out)⟩

end Go.Proofs.Ytbelfnmmmllolaa.QB
