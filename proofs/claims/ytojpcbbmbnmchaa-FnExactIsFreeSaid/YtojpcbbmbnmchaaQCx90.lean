-- Written by a program of this session out of Lean's own print of the loaded program; Lean checks it.
import Derived.Test.YtojpcbbmbnmchaaQCx4
import Derived.Test.YtojpcbbmbnmchaaQCx38
namespace Go.Proofs.Ytojpcbbmbnmchaa.QC
open Go.RowKit Go.Proofs.YtojpcbbmbnmchaaW.PrintWords Go.Proofs.YtojpcbbmbnmchaaW.PrintLast Go.Proofs.YtojpcbbmbnmchaaW.PrintMore
attribute [local go_sem] isSome_setCell max2_int min2_int max_two min_two max_three min_three max_four min_four   -- for this text's walks alone
set_option linter.unusedVariables false
set_option linter.unusedSimpArgs false

/-! ### impl_areMatrices: function 93 -/
def impl_areMatrices.l0 : Nat → List (S33) → Int → Int → Option (Bool)
 | 0, _, _, _ => none
 | k + 1, x5, x6, x7 => if x7 < x6 then (if 0 ≤ x7 then (if x7 < (x5.length : Int) then ((impl_IsMatrix.f k ((rd_T33 x5 x7).f0.f0) ((rd_T33 x5 x7).f0.f1) ((rd_T33 x5 x7).f1.f0) ((rd_T33 x5 x7).f1.f1)).bind fun t674 => (if t674 = true then (impl_areMatrices.l0 k x5 x6 (wrap64 (x7 + 1))) else (some false))) else (none)) else (none)) else (some true)
def impl_areMatrices.f (k : Nat) (l0 : List (S33)) : Option (Bool) := impl_areMatrices.l0 k l0 (l0.length : Int) 0
set_option maxHeartbeats 8000000 in
set_option maxRecDepth 100000 in
theorem impl_areMatrices.calls (k : Nat) (A0 : Option Addr) (c0 : Nat) (l0 : List (S33)) (r : Bool) (w : World) (hr0 : Kd.C k33 w A0 l0.length l0) (hc0 : l0.length ≤ c0) (h : impl_areMatrices.f k l0 = some r) :
  Calls Try.prog 93 #[.slice A0 l0.length c0] w fun e w' => e = .returned (.bool r) ∧ Below w.heap.size w w' := by
 have hu33 := Try.underlying33
 have HR0 := Aside0.mk hr0
 have HC0 := Aside0.mk hc0
 clear hr0 hc0
 have HB := Aside0.mk (Below.refl w.heap.size w)
 have H : (impl_areMatrices.l0 k l0 (l0.length : Int) 0) = some r := h
 clear h
 have H' := Aside0.mk H
 clear H
 go_enter Try.func93, Try.ntmps93
 go_wp2
 go_loopg [7] k (fun kq v7 w' => ∃ (x7_1 : Int), v7 = .int .i64 x7_1 ∧ Aside0 (impl_areMatrices.l0 kq l0 (l0.length : Int) x7_1 = some r) ∧ Aside0 (kq ≤ k) ∧ Aside0 (Below w.heap.size w w'))
 case atStart => exact ⟨(0), (by first | rfl | (simp; done) | (simp [*]; done) | (simp [wrap64]; done)), H', ⟨Nat.le_refl _⟩, bw_ HB⟩
 case round =>
  clear H'
  obtain ⟨x7_1, rfl, HA, HK1, HB⟩ := hrel
  cases gk with
  | zero => exact absurd HA.out (by simp [impl_areMatrices.l0])
  | succ k1 =>
   have H := HA.out
   clear HA
   simp only [impl_areMatrices.l0] at H
   by_cases c2 : x7_1 < (l0.length : Int)
   ·rw [if_pos c2] at H
    have c2b0 : decide (x7_1 < (l0.length : Int)) = true := decide_eq_true c2
    clear c2
    by_cases c3 : 0 ≤ x7_1
    ·rw [if_pos c3] at H
     have c3b0 : decide (0 ≤ x7_1) = true := decide_eq_true c3
     clear c3
     by_cases c4 : x7_1 < (l0.length : Int)
     ·rw [if_pos c4] at H
      have c4b0 : decide (x7_1 < (l0.length : Int)) = true := decide_eq_true c4
      clear c4
      replace H := Option.bind_eq_some_iff.mp H
      obtain ⟨t674, A50, H⟩ := H
      have A5 := Aside0.mk A50
      clear A50
      by_cases c6 : t674 = true
      ·subst c6
       have H1 : (impl_areMatrices.l0 k1 l0 (l0.length : Int) (wrap64 (x7_1 + 1))) = some r := by rw [if_pos rfl] at H; exact H
       clear H
       have H := H1
       clear H1
       have H' := Aside0.mk H
       clear H
       have p672 : 0 ≤ (x7_1 : Int) := of_decide_eq_true (by first | (with_reducible assumption) | assumption)
       have q672 : x7_1 < (l0.length : Int) := of_decide_eq_true (by first | (with_reducible assumption) | assumption)
       obtain ⟨ad672, e672, hx672_0, hx672_1, hx672_2, hx672_3⟩ := at_T33 HR0.out x7_1 p672 q672
       cases e672
       replace hx672_0 := clTr HB.out hx672_0
       replace hx672_1 := clTr HB.out hx672_1
       replace hx672_2 := clTr HB.out hx672_2
       replace hx672_3 := clTr HB.out hx672_3
       replace p672 := eq_true p672
       replace q672 := eq_true q672
       go_wp2_with (first | ((with_reducible refine gate_dst (N := 4) rfl ?_); refine bx_ 4 #[.int .i64 0, .int .i64 0, .int .i64 0, .int .i64 0] 33 ?_; intro gb673 hg w7 hbox hb; have BK673 := Aside0.mk (hbox); have GW673 := bs_ HB hg; have GE673 := bs_ HB hg; replace HB := bt_ HB hb; clear hb hbox hg; have hcz8_0 : w7.cell? ⟨gb673, 0, none⟩ = some (.int .i64 0) := (blk_cell BK673.out 0).trans rfl; have hcz8_1 : w7.cell? ⟨gb673, 1, none⟩ = some (.int .i64 0) := (blk_cell BK673.out 1).trans rfl; have hcz8_2 : w7.cell? ⟨gb673, 2, none⟩ = some (.int .i64 0) := (blk_cell BK673.out 2).trans rfl; have hcz8_3 : w7.cell? ⟨gb673, 3, none⟩ = some (.int .i64 0) := (blk_cell BK673.out 3).trans rfl; have hfz8_0 := blk_frozen BK673.out 0; have hfz8_1 := blk_frozen BK673.out 1; have hfz8_2 := blk_frozen BK673.out 2; have hfz8_3 := blk_frozen BK673.out 3) | ((with_reducible refine gate_callee (f := 39) rfl ?_); refine goesL_ (some 12) rfl rfl Try.func39 (by kernel_rfl) rfl #[.agg #[.int .i64 ((rd_T33 l0 x7_1).f0.f0), .int .i64 ((rd_T33 l0 x7_1).f0.f1), .int .i64 ((rd_T33 l0 x7_1).f1.f0), .int .i64 ((rd_T33 l0 x7_1).f1.f1)]] rfl (by (try simp only [List.map_toArray, List.map_cons, List.map_nil]); first | done | rfl | (simp only [List.length_drop, List.length_take]; rfl)) ?_; (with_reducible refine (impl_IsMatrix.calls k1 ((rd_T33 l0 x7_1).f0.f0) ((rd_T33 l0 x7_1).f0.f1) ((rd_T33 l0 x7_1).f1.f0) ((rd_T33 l0 x7_1).f1.f1) true _ A5.out).mono ?_); rintro e w9 ⟨rfl, hb⟩; refine ⟨_, rfl, ?_⟩; replace BK673 := Aside0.mk (blk_below (g := gb673) (o := .cells #[.int .i64 ((rd_T33 l0 x7_1).f0.f0), .int .i64 ((rd_T33 l0 x7_1).f0.f1), .int .i64 ((rd_T33 l0 x7_1).f1.f0), .int .i64 ((rd_T33 l0 x7_1).f1.f1)] 33 (0, 0)) (by (with_reducible repeat first | apply blk_drewN | apply blk_drew | apply blk_alloc); refine blk_put (cs := #[.int .i64 ((rd_T33 l0 x7_1).f0.f0), .int .i64 ((rd_T33 l0 x7_1).f0.f1), .int .i64 ((rd_T33 l0 x7_1).f1.f0), .int .i64 0]) ?_ 3 _ rfl; (with_reducible repeat first | apply blk_drewN | apply blk_drew | apply blk_alloc); refine blk_put (cs := #[.int .i64 ((rd_T33 l0 x7_1).f0.f0), .int .i64 ((rd_T33 l0 x7_1).f0.f1), .int .i64 0, .int .i64 0]) ?_ 2 _ rfl; (with_reducible repeat first | apply blk_drewN | apply blk_drew | apply blk_alloc); refine blk_put (cs := #[.int .i64 ((rd_T33 l0 x7_1).f0.f0), .int .i64 0, .int .i64 0, .int .i64 0]) ?_ 1 _ rfl; (with_reducible repeat first | apply blk_drewN | apply blk_drew | apply blk_alloc); refine blk_put (cs := #[.int .i64 0, .int .i64 0, .int .i64 0, .int .i64 0]) ?_ 0 _ rfl; (with_reducible repeat first | apply blk_drewN | apply blk_drew | apply blk_alloc); exact BK673.out) hb); replace HB := bt_ HB hb; (try clear hb); (try clear hb2); (try clear hk); (try clear hi)))
       go_roundg k1
       case measure => have := HK1.out; omega
       case rel => exact ⟨(wrap64 (x7_1 + 1)), (by first | rfl | (simp; done) | (simp [*]; done) | (simp [wrap64]; done)), H', ⟨by have := HK1.out; omega⟩, bw_ HB⟩
      ·replace c6 := Bool.eq_false_iff.mpr c6
       subst c6
       have H1 : (some false) = some r := by rw [if_neg (show ¬ (false = true) by decide)] at H; exact H
       clear H
       have H := H1
       clear H1
       obtain rfl := Option.some.inj H
       have p672 : 0 ≤ (x7_1 : Int) := of_decide_eq_true (by first | (with_reducible assumption) | assumption)
       have q672 : x7_1 < (l0.length : Int) := of_decide_eq_true (by first | (with_reducible assumption) | assumption)
       obtain ⟨ad672, e672, hx672_0, hx672_1, hx672_2, hx672_3⟩ := at_T33 HR0.out x7_1 p672 q672
       cases e672
       replace hx672_0 := clTr HB.out hx672_0
       replace hx672_1 := clTr HB.out hx672_1
       replace hx672_2 := clTr HB.out hx672_2
       replace hx672_3 := clTr HB.out hx672_3
       replace p672 := eq_true p672
       replace q672 := eq_true q672
       go_wp2_with (first | ((with_reducible refine gate_dst (N := 4) rfl ?_); refine bx_ 4 #[.int .i64 0, .int .i64 0, .int .i64 0, .int .i64 0] 33 ?_; intro gb673 hg w10 hbox hb; have BK673 := Aside0.mk (hbox); have GW673 := bs_ HB hg; have GE673 := bs_ HB hg; replace HB := bt_ HB hb; clear hb hbox hg; have hcz11_0 : w10.cell? ⟨gb673, 0, none⟩ = some (.int .i64 0) := (blk_cell BK673.out 0).trans rfl; have hcz11_1 : w10.cell? ⟨gb673, 1, none⟩ = some (.int .i64 0) := (blk_cell BK673.out 1).trans rfl; have hcz11_2 : w10.cell? ⟨gb673, 2, none⟩ = some (.int .i64 0) := (blk_cell BK673.out 2).trans rfl; have hcz11_3 : w10.cell? ⟨gb673, 3, none⟩ = some (.int .i64 0) := (blk_cell BK673.out 3).trans rfl; have hfz11_0 := blk_frozen BK673.out 0; have hfz11_1 := blk_frozen BK673.out 1; have hfz11_2 := blk_frozen BK673.out 2; have hfz11_3 := blk_frozen BK673.out 3) | ((with_reducible refine gate_callee (f := 39) rfl ?_); refine goesL_ (some 12) rfl rfl Try.func39 (by kernel_rfl) rfl #[.agg #[.int .i64 ((rd_T33 l0 x7_1).f0.f0), .int .i64 ((rd_T33 l0 x7_1).f0.f1), .int .i64 ((rd_T33 l0 x7_1).f1.f0), .int .i64 ((rd_T33 l0 x7_1).f1.f1)]] rfl (by (try simp only [List.map_toArray, List.map_cons, List.map_nil]); first | done | rfl | (simp only [List.length_drop, List.length_take]; rfl)) ?_; (with_reducible refine (impl_IsMatrix.calls k1 ((rd_T33 l0 x7_1).f0.f0) ((rd_T33 l0 x7_1).f0.f1) ((rd_T33 l0 x7_1).f1.f0) ((rd_T33 l0 x7_1).f1.f1) false _ A5.out).mono ?_); rintro e w12 ⟨rfl, hb⟩; refine ⟨_, rfl, ?_⟩; replace BK673 := Aside0.mk (blk_below (g := gb673) (o := .cells #[.int .i64 ((rd_T33 l0 x7_1).f0.f0), .int .i64 ((rd_T33 l0 x7_1).f0.f1), .int .i64 ((rd_T33 l0 x7_1).f1.f0), .int .i64 ((rd_T33 l0 x7_1).f1.f1)] 33 (0, 0)) (by (with_reducible repeat first | apply blk_drewN | apply blk_drew | apply blk_alloc); refine blk_put (cs := #[.int .i64 ((rd_T33 l0 x7_1).f0.f0), .int .i64 ((rd_T33 l0 x7_1).f0.f1), .int .i64 ((rd_T33 l0 x7_1).f1.f0), .int .i64 0]) ?_ 3 _ rfl; (with_reducible repeat first | apply blk_drewN | apply blk_drew | apply blk_alloc); refine blk_put (cs := #[.int .i64 ((rd_T33 l0 x7_1).f0.f0), .int .i64 ((rd_T33 l0 x7_1).f0.f1), .int .i64 0, .int .i64 0]) ?_ 2 _ rfl; (with_reducible repeat first | apply blk_drewN | apply blk_drew | apply blk_alloc); refine blk_put (cs := #[.int .i64 ((rd_T33 l0 x7_1).f0.f0), .int .i64 0, .int .i64 0, .int .i64 0]) ?_ 1 _ rfl; (with_reducible repeat first | apply blk_drewN | apply blk_drew | apply blk_alloc); refine blk_put (cs := #[.int .i64 0, .int .i64 0, .int .i64 0, .int .i64 0]) ?_ 0 _ rfl; (with_reducible repeat first | apply blk_drewN | apply blk_drew | apply blk_alloc); exact BK673.out) hb); replace HB := bt_ HB hb; (try clear hb); (try clear hb2); (try clear hk); (try clear hi)))
       go_ret
       exact ⟨by first | rfl | (simp [errW_none, errW_some] <;> rfl) | (simp [*, errW_none, errW_some] <;> rfl), by repeat (first | (with_reducible first | exact HB.out | apply below_alloc | apply pw_below_drewN | apply below_drew1 | refine below_set ?_ GE673.out) | exact HB.out)⟩
     ·rw [if_neg c4] at H
      exact absurd H (by simp)
    ·rw [if_neg c3] at H
     exact absurd H (by simp)
   ·rw [if_neg c2] at H
    have c2b0 : decide (x7_1 < (l0.length : Int)) = false := decide_eq_false c2
    clear c2
    obtain rfl := Option.some.inj H
    go_wp2
    go_ret
    exact ⟨by first | rfl | (simp [errW_none, errW_some] <;> rfl) | (simp [*, errW_none, errW_some] <;> rfl), by repeat (first | (with_reducible first | exact HB.out | apply below_alloc | apply pw_below_drewN | apply below_drew1) | exact HB.out)⟩
end Go.Proofs.Ytojpcbbmbnmchaa.QC
