-- Written by a program of this session out of Lean's own print of the loaded program; Lean checks it.
import Derived.Test.YtbelfnmmmllolabQBx0
import Derived.Test.YtbelfnmmmllolabQBx4
import Derived.Test.YtbelfnmmmllolabQBx5
import Derived.Test.YtbelfnmmmllolabQBx13
namespace Go.Proofs.Ytbelfnmmmllolab.QB
open Go.RowKit Go.Proofs.YtbelfnmmmllolabW.PrintWords Go.Proofs.YtbelfnmmmllolabW.PrintLast Go.Proofs.YtbelfnmmmllolabW.PrintMore
attribute [local go_sem] isSome_setCell max2_int min2_int max_two min_two max_three min_three max_four min_four   -- for this text's walks alone
set_option linter.unusedVariables false
set_option linter.unusedSimpArgs false

/-! ### spec_l09Paired: function 44 -/
mutual
def spec_l09Paired.j0 : Nat → Int → Int → Bool → Int → Int → Int → Int → Int → Int → Option (Int × Int × Int × Int × Bool)
 | 0, _, _, _, _, _, _, _, _, _ => none
 | k + 1, x0, x8, x43, x131000, x131001, x131002, x132000, x132001, x132002 => if x43 = true then (some (0, 0, 0, 0, false)) else ((spec_l01Power.f k x0 x131002).bind fun t133 => ((spec_l01Power.f k x0 x132002).bind fun t134 => ((spec_l01Power.f k x0 (mx x8 0)).bind fun t135 => ((spec_l01Power.f k x0 (mx (wrap64 (-x8)) 0)).bind fun t136 => (spec_l09Paired.l0 k 0 0 (wrap64 ((wrap64 (x132001 * t133)) * t136)) (wrap64 ((wrap64 ((wrap64 (t135 * t133)) * t134)) - (wrap64 ((wrap64 (x131001 * x132001)) * t136)))) (wrap64 ((wrap64 (t133 * t134)) * t136)) (wrap64 ((wrap64 ((wrap64 (-x131001)) * t134)) * t136)))))))
def spec_l09Paired.l0 : Nat → Int → Int → Int → Int → Int → Int → Option (Int × Int × Int × Int × Bool)
 | 0, _, _, _, _, _, _ => none
 | k + 1, x14, x15, x138000, x138001, x138002, x138003 => if x15 < 4 then (if x15 = 0 then (if x138000 = 0 then (if x14 = 0 then (spec_l09Paired.l0 k x14 (wrap64 (x15 + 1)) x138000 x138001 x138002 x138003) else ((spec_l01Gcd.f k x138000 x14).bind fun t138 => (spec_l09Paired.l0 k t138 (wrap64 (x15 + 1)) x138000 x138001 x138002 x138003))) else ((spec_l01Gcd.f k x138000 x14).bind fun t139 => (spec_l09Paired.l0 k t139 (wrap64 (x15 + 1)) x138000 x138001 x138002 x138003))) else (if x15 = 1 then (if x138001 = 0 then (if x14 = 0 then (spec_l09Paired.l0 k x14 (wrap64 (x15 + 1)) x138000 x138001 x138002 x138003) else ((spec_l01Gcd.f k x138001 x14).bind fun t140 => (spec_l09Paired.l0 k t140 (wrap64 (x15 + 1)) x138000 x138001 x138002 x138003))) else ((spec_l01Gcd.f k x138001 x14).bind fun t141 => (spec_l09Paired.l0 k t141 (wrap64 (x15 + 1)) x138000 x138001 x138002 x138003))) else (if x15 = 2 then (if x138002 = 0 then (if x14 = 0 then (spec_l09Paired.l0 k x14 (wrap64 (x15 + 1)) x138000 x138001 x138002 x138003) else ((spec_l01Gcd.f k x138002 x14).bind fun t142 => (spec_l09Paired.l0 k t142 (wrap64 (x15 + 1)) x138000 x138001 x138002 x138003))) else ((spec_l01Gcd.f k x138002 x14).bind fun t143 => (spec_l09Paired.l0 k t143 (wrap64 (x15 + 1)) x138000 x138001 x138002 x138003))) else (if x15 = 3 then (if x138003 = 0 then (if x14 = 0 then (spec_l09Paired.l0 k x14 (wrap64 (x15 + 1)) x138000 x138001 x138002 x138003) else ((spec_l01Gcd.f k x138003 x14).bind fun t144 => (spec_l09Paired.l0 k t144 (wrap64 (x15 + 1)) x138000 x138001 x138002 x138003))) else ((spec_l01Gcd.f k x138003 x14).bind fun t145 => (spec_l09Paired.l0 k t145 (wrap64 (x15 + 1)) x138000 x138001 x138002 x138003))) else (none))))) else (spec_l09Paired.l1 k x14 0 x138000 x138001 x138002 x138003)
def spec_l09Paired.j3 : Nat → Int → Int → Int → Int → Int → Option (Int × Int × Int × Int × Bool)
 | 0, _, _, _, _, _ => none
 | k + 1, x14, x138000, x138001, x138002, x138003 => spec_l09Paired.l2 k x14 0 x138000 x138001 x138002 x138003
def spec_l09Paired.l2 : Nat → Int → Int → Int → Int → Int → Int → Option (Int × Int × Int × Int × Bool)
 | 0, _, _, _, _, _, _ => none
 | k + 1, x14, x17, x138000, x138001, x138002, x138003 => if x17 < 4 then (if x17 = 0 then (if x14 = 0 then (none) else ((spec_l01In.f (wrap64 (Int.tdiv x138000 x14)) (-1000) 1000).bind fun t146 => (if t146 = true then (spec_l09Paired.l2 k x14 (wrap64 (x17 + 1)) (wrap64 (Int.tdiv x138000 x14)) x138001 x138002 x138003) else (some (0, 0, 0, 0, false))))) else (if x17 = 1 then (if x14 = 0 then (none) else ((spec_l01In.f (wrap64 (Int.tdiv x138001 x14)) (-1000) 1000).bind fun t147 => (if t147 = true then (spec_l09Paired.l2 k x14 (wrap64 (x17 + 1)) x138000 (wrap64 (Int.tdiv x138001 x14)) x138002 x138003) else (some (0, 0, 0, 0, false))))) else (if x17 = 2 then (if x14 = 0 then (none) else ((spec_l01In.f (wrap64 (Int.tdiv x138002 x14)) (-1000) 1000).bind fun t148 => (if t148 = true then (spec_l09Paired.l2 k x14 (wrap64 (x17 + 1)) x138000 x138001 (wrap64 (Int.tdiv x138002 x14)) x138003) else (some (0, 0, 0, 0, false))))) else (if x17 = 3 then (if x14 = 0 then (none) else ((spec_l01In.f (wrap64 (Int.tdiv x138003 x14)) (-1000) 1000).bind fun t149 => (if t149 = true then (spec_l09Paired.l2 k x14 (wrap64 (x17 + 1)) x138000 x138001 x138002 (wrap64 (Int.tdiv x138003 x14))) else (some (0, 0, 0, 0, false))))) else (none))))) else (some (x138000, x138001, x138002, x138003, true))
def spec_l09Paired.l1 : Nat → Int → Int → Int → Int → Int → Int → Option (Int × Int × Int × Int × Bool)
 | 0, _, _, _, _, _, _ => none
 | k + 1, x14, x16, x138000, x138001, x138002, x138003 => if x16 < 4 then (if x16 = 0 then (if x138000 = 0 then (spec_l09Paired.l1 k x14 (wrap64 (x16 + 1)) x138000 x138001 x138002 x138003) else (if x138000 < 0 then (spec_l09Paired.j3 k (wrap64 (-x14)) x138000 x138001 x138002 x138003) else (spec_l09Paired.j3 k x14 x138000 x138001 x138002 x138003))) else (if x16 = 1 then (if x138001 = 0 then (spec_l09Paired.l1 k x14 (wrap64 (x16 + 1)) x138000 x138001 x138002 x138003) else (if x138001 < 0 then (spec_l09Paired.j3 k (wrap64 (-x14)) x138000 x138001 x138002 x138003) else (spec_l09Paired.j3 k x14 x138000 x138001 x138002 x138003))) else (if x16 = 2 then (if x138002 = 0 then (spec_l09Paired.l1 k x14 (wrap64 (x16 + 1)) x138000 x138001 x138002 x138003) else (if x138002 < 0 then (spec_l09Paired.j3 k (wrap64 (-x14)) x138000 x138001 x138002 x138003) else (spec_l09Paired.j3 k x14 x138000 x138001 x138002 x138003))) else (if x16 = 3 then (if x138003 = 0 then (spec_l09Paired.l1 k x14 (wrap64 (x16 + 1)) x138000 x138001 x138002 x138003) else (if x138003 < 0 then (spec_l09Paired.j3 k (wrap64 (-x14)) x138000 x138001 x138002 x138003) else (spec_l09Paired.j3 k x14 x138000 x138001 x138002 x138003))) else (none))))) else (spec_l09Paired.j3 k x14 x138000 x138001 x138002 x138003)
end
def spec_l09Paired.f (k : Nat) (a0 : Int) (a1_0 : Int) (a1_1 : Int) (a1_2 : Int) (a2_0 : Int) (a2_1 : Int) (a2_2 : Int) : Option (Int × Int × Int × Int × Bool) := if a1_1 > 1000000 then (spec_l09Paired.j0 k a0 (wrap64 ((wrap64 (a1_0 + a2_0)) - 1)) true a1_0 a1_1 a1_2 a2_0 a2_1 a2_2) else (if a2_1 > 1000000 then (spec_l09Paired.j0 k a0 (wrap64 ((wrap64 (a1_0 + a2_0)) - 1)) true a1_0 a1_1 a1_2 a2_0 a2_1 a2_2) else (if a0 = 7 then (spec_l09Paired.j0 k a0 (wrap64 ((wrap64 (a1_0 + a2_0)) - 1)) ((wrap64 (a1_2 + a2_2)) == 12) a1_0 a1_1 a1_2 a2_0 a2_1 a2_2) else (spec_l09Paired.j0 k a0 (wrap64 ((wrap64 (a1_0 + a2_0)) - 1)) false a1_0 a1_1 a1_2 a2_0 a2_1 a2_2)))
set_option maxHeartbeats 8000000 in
set_option maxRecDepth 100000 in
theorem spec_l09Paired.calls (k : Nat) (a0 : Int) (a1_0 : Int) (a1_1 : Int) (a1_2 : Int) (a2_0 : Int) (a2_1 : Int) (a2_2 : Int) (r1 : Int) (r2 : Int) (r3 : Int) (r4 : Int) (r5 : Bool) (w : World) (h : spec_l09Paired.f k a0 a1_0 a1_1 a1_2 a2_0 a2_1 a2_2 = some (r1, r2, r3, r4, r5)) :
  Calls Try.prog 44 #[.int .i64 a0, .agg #[.int .i64 a1_0, .int .i64 a1_1, .int .i64 a1_2], .agg #[.int .i64 a2_0, .int .i64 a2_1, .int .i64 a2_2]] w fun e w' => e = .returned (.tuple #[.agg #[.int .i64 r1, .int .i64 r2, .int .i64 r3, .int .i64 r4], .bool r5]) ∧ Below w.heap.size w w' := by
 have hu29 := Try.underlying29
 have hu26 := Try.underlying26
 have hu98 := Try.underlying98
 have hu24 := Try.underlying24
 have HB := Aside0.mk (Below.refl w.heap.size w)
 have H : (if a1_1 > 1000000 then (spec_l09Paired.j0 k a0 (wrap64 ((wrap64 (a1_0 + a2_0)) - 1)) true a1_0 a1_1 a1_2 a2_0 a2_1 a2_2) else (if a2_1 > 1000000 then (spec_l09Paired.j0 k a0 (wrap64 ((wrap64 (a1_0 + a2_0)) - 1)) true a1_0 a1_1 a1_2 a2_0 a2_1 a2_2) else (if a0 = 7 then (spec_l09Paired.j0 k a0 (wrap64 ((wrap64 (a1_0 + a2_0)) - 1)) ((wrap64 (a1_2 + a2_2)) == 12) a1_0 a1_1 a1_2 a2_0 a2_1 a2_2) else (spec_l09Paired.j0 k a0 (wrap64 ((wrap64 (a1_0 + a2_0)) - 1)) false a1_0 a1_1 a1_2 a2_0 a2_1 a2_2)))) = some (r1, r2, r3, r4, r5) := h
 clear h
 have HC4 := Aside0.mk H
 clear H
 go_enter Try.func44, Try.ntmps44
 go_upto_region 2 with (first | ((with_reducible refine gate_dst (N := 4) rfl ?_); refine box_event ?hg (N := 4) ?hd (cs := #[.int .i64 a1_0, .int .i64 a1_1, .int .i64 a1_2]) (t := 29) ?hr ?_; (case hd => rfl); (case hg => rfl); (case hr => first | (go_simp; done) | (go_simp; rfl)); intro gb130 hg w5 hbox hb; have n0_ := Aside0.mk (below_step (by repeat (first | (with_reducible first | exact HB.out | apply below_alloc | apply pw_below_drewN | apply below_drew1) | exact HB.out)) hb); have n1_ := Aside0.mk (hbox); have n2_ := Aside0.mk ((by rw [hg]; exact (below_size (by repeat (first | (with_reducible first | exact HB.out | apply below_alloc | apply pw_below_drewN | apply below_drew1) | exact HB.out))) : w.heap.size ≤ gb130)); have n3_ := Aside0.mk ((by rw [hg]; exact (below_size (by repeat (first | (with_reducible first | exact HB.out | apply below_alloc | apply pw_below_drewN | apply below_drew1) | exact HB.out))) : w.heap.size ≤ gb130)); clear HB; have HB := n0_; have BK130 := n1_; have GW130 := n2_; have GE130 := n3_; clear n0_ n1_ n2_ n3_; clear hb hbox hg) | ((with_reducible refine gate_dst (N := 5) rfl ?_); refine box_event ?hg (N := 5) ?hd (cs := #[.int .i64 a2_0, .int .i64 a2_1, .int .i64 a2_2]) (t := 29) ?hr ?_; (case hd => rfl); (case hg => rfl); (case hr => first | (go_simp; done) | (go_simp; rfl)); intro gb131 hg w6 hbox hb; have n0_ := Aside0.mk (blk_below (g := gb130) (o := .cells #[.int .i64 a1_0, .int .i64 a1_1, .int .i64 a1_2] 29 (0, 0)) (by (with_reducible repeat first | apply blk_drewN | apply blk_drew | apply blk_alloc); exact BK130.out) hb); have n1_ := Aside0.mk (below_step (by repeat (first | (with_reducible first | exact HB.out | apply below_alloc | apply pw_below_drewN | apply below_drew1 | refine below_set ?_ GE130.out) | exact HB.out)) hb); have n2_ := Aside0.mk (hbox); have n3_ := Aside0.mk ((by rw [hg]; exact (below_size (by repeat (first | (with_reducible first | exact HB.out | apply below_alloc | apply pw_below_drewN | apply below_drew1 | refine below_set ?_ GE130.out) | exact HB.out))) : w.heap.size ≤ gb131)); have n4_ := Aside0.mk ((by rw [hg]; exact (below_size (by repeat (first | (with_reducible first | exact HB.out | apply below_alloc | apply pw_below_drewN | apply below_drew1 | refine below_set ?_ GE130.out) | exact HB.out))) : w.heap.size ≤ gb131)); have n5_ := Aside0.mk ((by rw [hg]; exact Nat.ne_of_lt (blk_lt (g := gb130) (o := .cells #[.int .i64 a1_0, .int .i64 a1_1, .int .i64 a1_2] 29 (0, 0)) (by (with_reducible repeat first | apply blk_drewN | apply blk_drew | apply blk_alloc); exact BK130.out)) : gb130 ≠ gb131)); have n6_ := Aside0.mk ((by rw [hg]; exact Nat.ne_of_gt (blk_lt (g := gb130) (o := .cells #[.int .i64 a1_0, .int .i64 a1_1, .int .i64 a1_2] 29 (0, 0)) (by (with_reducible repeat first | apply blk_drewN | apply blk_drew | apply blk_alloc); exact BK130.out)) : gb131 ≠ gb130)); clear BK130; clear HB; have BK130 := n0_; have HB := n1_; have BK131 := n2_; have GW131 := n3_; have GE131 := n4_; have NB130_131 := n5_; have NB131_130 := n6_; clear n0_ n1_ n2_ n3_ n4_ n5_ n6_; clear hb hbox hg) | ((with_reducible refine gate_dst (N := 6) rfl ?_); refine box_event ?hg (N := 6) ?hd (cs := #[.int .i64 0, .int .i64 0, .int .i64 0, .int .i64 0]) (t := 26) ?hr ?_; (case hd => rfl); (case hg => rfl); (case hr => first | (go_simp; done) | (go_simp; rfl)); intro gb132 hg w7 hbox hb; have n0_ := Aside0.mk (blk_below (g := gb130) (o := .cells #[.int .i64 a1_0, .int .i64 a1_1, .int .i64 a1_2] 29 (0, 0)) (by (with_reducible repeat first | apply blk_drewN | apply blk_drew | apply blk_alloc); exact BK130.out) hb); have n1_ := Aside0.mk (blk_below (g := gb131) (o := .cells #[.int .i64 a2_0, .int .i64 a2_1, .int .i64 a2_2] 29 (0, 0)) (by (with_reducible repeat first | apply blk_drewN | apply blk_drew | apply blk_alloc); exact BK131.out) hb); have n2_ := Aside0.mk (below_step (by repeat (first | (with_reducible first | exact HB.out | apply below_alloc | apply pw_below_drewN | apply below_drew1 | refine below_set ?_ GE130.out | refine below_set ?_ GE131.out) | exact HB.out)) hb); have n3_ := Aside0.mk (hbox); have n4_ := Aside0.mk ((by rw [hg]; exact (below_size (by repeat (first | (with_reducible first | exact HB.out | apply below_alloc | apply pw_below_drewN | apply below_drew1 | refine below_set ?_ GE130.out | refine below_set ?_ GE131.out) | exact HB.out))) : w.heap.size ≤ gb132)); have n5_ := Aside0.mk ((by rw [hg]; exact (below_size (by repeat (first | (with_reducible first | exact HB.out | apply below_alloc | apply pw_below_drewN | apply below_drew1 | refine below_set ?_ GE130.out | refine below_set ?_ GE131.out) | exact HB.out))) : w.heap.size ≤ gb132)); have n6_ := Aside0.mk ((by rw [hg]; exact Nat.ne_of_lt (blk_lt (g := gb130) (o := .cells #[.int .i64 a1_0, .int .i64 a1_1, .int .i64 a1_2] 29 (0, 0)) (by (with_reducible repeat first | apply blk_drewN | apply blk_drew | apply blk_alloc); exact BK130.out)) : gb130 ≠ gb132)); have n7_ := Aside0.mk ((by rw [hg]; exact Nat.ne_of_gt (blk_lt (g := gb130) (o := .cells #[.int .i64 a1_0, .int .i64 a1_1, .int .i64 a1_2] 29 (0, 0)) (by (with_reducible repeat first | apply blk_drewN | apply blk_drew | apply blk_alloc); exact BK130.out)) : gb132 ≠ gb130)); have n8_ := Aside0.mk ((by rw [hg]; exact Nat.ne_of_lt (blk_lt (g := gb131) (o := .cells #[.int .i64 a2_0, .int .i64 a2_1, .int .i64 a2_2] 29 (0, 0)) (by (with_reducible repeat first | apply blk_drewN | apply blk_drew | apply blk_alloc); exact BK131.out)) : gb131 ≠ gb132)); have n9_ := Aside0.mk ((by rw [hg]; exact Nat.ne_of_gt (blk_lt (g := gb131) (o := .cells #[.int .i64 a2_0, .int .i64 a2_1, .int .i64 a2_2] 29 (0, 0)) (by (with_reducible repeat first | apply blk_drewN | apply blk_drew | apply blk_alloc); exact BK131.out)) : gb132 ≠ gb131)); clear BK130; clear BK131; clear HB; have BK130 := n0_; have BK131 := n1_; have HB := n2_; have BK132 := n3_; have GW132 := n4_; have GE132 := n5_; have NB130_132 := n6_; have NB132_130 := n7_; have NB131_132 := n8_; have NB132_131 := n9_; clear n0_ n1_ n2_ n3_ n4_ n5_ n6_ n7_ n8_ n9_; clear hb hbox hg; have hnb8 := NB130_131.out; have hnc8 := NB131_130.out; have hnb9 := NB130_132.out; have hnc9 := NB132_130.out; have hcz10_0 : w7.cell? ⟨gb130, 0, none⟩ = some (.int .i64 a1_0) := (blk_cell BK130.out 0).trans rfl; have hcz10_1 : w7.cell? ⟨gb130, 1, none⟩ = some (.int .i64 a1_1) := (blk_cell BK130.out 1).trans rfl; have hcz10_2 : w7.cell? ⟨gb130, 2, none⟩ = some (.int .i64 a1_2) := (blk_cell BK130.out 2).trans rfl; have hfz10_0 := blk_frozen BK130.out 0; have hfz10_1 := blk_frozen BK130.out 1; have hfz10_2 := blk_frozen BK130.out 2; have hnb11 := NB131_132.out; have hnc11 := NB132_131.out; have hcz12_0 : w7.cell? ⟨gb131, 0, none⟩ = some (.int .i64 a2_0) := (blk_cell BK131.out 0).trans rfl; have hcz12_1 : w7.cell? ⟨gb131, 1, none⟩ = some (.int .i64 a2_1) := (blk_cell BK131.out 1).trans rfl; have hcz12_2 : w7.cell? ⟨gb131, 2, none⟩ = some (.int .i64 a2_2) := (blk_cell BK131.out 2).trans rfl; have hfz12_0 := blk_frozen BK131.out 0; have hfz12_1 := blk_frozen BK131.out 1; have hfz12_2 := blk_frozen BK131.out 2))
 repeat (go_quiet (first | ((with_reducible refine gate_dst (N := 4) rfl ?_); refine box_event ?hg (N := 4) ?hd (cs := #[.int .i64 a1_0, .int .i64 a1_1, .int .i64 a1_2]) (t := 29) ?hr ?_; (case hd => rfl); (case hg => rfl); (case hr => first | (go_simp; done) | (go_simp; rfl)); intro gb130 hg w5 hbox hb; have n0_ := Aside0.mk (below_step (by repeat (first | (with_reducible first | exact HB.out | apply below_alloc | apply pw_below_drewN | apply below_drew1) | exact HB.out)) hb); have n1_ := Aside0.mk (hbox); have n2_ := Aside0.mk ((by rw [hg]; exact (below_size (by repeat (first | (with_reducible first | exact HB.out | apply below_alloc | apply pw_below_drewN | apply below_drew1) | exact HB.out))) : w.heap.size ≤ gb130)); have n3_ := Aside0.mk ((by rw [hg]; exact (below_size (by repeat (first | (with_reducible first | exact HB.out | apply below_alloc | apply pw_below_drewN | apply below_drew1) | exact HB.out))) : w.heap.size ≤ gb130)); clear HB; have HB := n0_; have BK130 := n1_; have GW130 := n2_; have GE130 := n3_; clear n0_ n1_ n2_ n3_; clear hb hbox hg) | ((with_reducible refine gate_dst (N := 5) rfl ?_); refine box_event ?hg (N := 5) ?hd (cs := #[.int .i64 a2_0, .int .i64 a2_1, .int .i64 a2_2]) (t := 29) ?hr ?_; (case hd => rfl); (case hg => rfl); (case hr => first | (go_simp; done) | (go_simp; rfl)); intro gb131 hg w6 hbox hb; have n0_ := Aside0.mk (blk_below (g := gb130) (o := .cells #[.int .i64 a1_0, .int .i64 a1_1, .int .i64 a1_2] 29 (0, 0)) (by (with_reducible repeat first | apply blk_drewN | apply blk_drew | apply blk_alloc); exact BK130.out) hb); have n1_ := Aside0.mk (below_step (by repeat (first | (with_reducible first | exact HB.out | apply below_alloc | apply pw_below_drewN | apply below_drew1 | refine below_set ?_ GE130.out) | exact HB.out)) hb); have n2_ := Aside0.mk (hbox); have n3_ := Aside0.mk ((by rw [hg]; exact (below_size (by repeat (first | (with_reducible first | exact HB.out | apply below_alloc | apply pw_below_drewN | apply below_drew1 | refine below_set ?_ GE130.out) | exact HB.out))) : w.heap.size ≤ gb131)); have n4_ := Aside0.mk ((by rw [hg]; exact (below_size (by repeat (first | (with_reducible first | exact HB.out | apply below_alloc | apply pw_below_drewN | apply below_drew1 | refine below_set ?_ GE130.out) | exact HB.out))) : w.heap.size ≤ gb131)); have n5_ := Aside0.mk ((by rw [hg]; exact Nat.ne_of_lt (blk_lt (g := gb130) (o := .cells #[.int .i64 a1_0, .int .i64 a1_1, .int .i64 a1_2] 29 (0, 0)) (by (with_reducible repeat first | apply blk_drewN | apply blk_drew | apply blk_alloc); exact BK130.out)) : gb130 ≠ gb131)); have n6_ := Aside0.mk ((by rw [hg]; exact Nat.ne_of_gt (blk_lt (g := gb130) (o := .cells #[.int .i64 a1_0, .int .i64 a1_1, .int .i64 a1_2] 29 (0, 0)) (by (with_reducible repeat first | apply blk_drewN | apply blk_drew | apply blk_alloc); exact BK130.out)) : gb131 ≠ gb130)); clear BK130; clear HB; have BK130 := n0_; have HB := n1_; have BK131 := n2_; have GW131 := n3_; have GE131 := n4_; have NB130_131 := n5_; have NB131_130 := n6_; clear n0_ n1_ n2_ n3_ n4_ n5_ n6_; clear hb hbox hg) | ((with_reducible refine gate_dst (N := 6) rfl ?_); refine box_event ?hg (N := 6) ?hd (cs := #[.int .i64 0, .int .i64 0, .int .i64 0, .int .i64 0]) (t := 26) ?hr ?_; (case hd => rfl); (case hg => rfl); (case hr => first | (go_simp; done) | (go_simp; rfl)); intro gb132 hg w7 hbox hb; have n0_ := Aside0.mk (blk_below (g := gb130) (o := .cells #[.int .i64 a1_0, .int .i64 a1_1, .int .i64 a1_2] 29 (0, 0)) (by (with_reducible repeat first | apply blk_drewN | apply blk_drew | apply blk_alloc); exact BK130.out) hb); have n1_ := Aside0.mk (blk_below (g := gb131) (o := .cells #[.int .i64 a2_0, .int .i64 a2_1, .int .i64 a2_2] 29 (0, 0)) (by (with_reducible repeat first | apply blk_drewN | apply blk_drew | apply blk_alloc); exact BK131.out) hb); have n2_ := Aside0.mk (below_step (by repeat (first | (with_reducible first | exact HB.out | apply below_alloc | apply pw_below_drewN | apply below_drew1 | refine below_set ?_ GE130.out | refine below_set ?_ GE131.out) | exact HB.out)) hb); have n3_ := Aside0.mk (hbox); have n4_ := Aside0.mk ((by rw [hg]; exact (below_size (by repeat (first | (with_reducible first | exact HB.out | apply below_alloc | apply pw_below_drewN | apply below_drew1 | refine below_set ?_ GE130.out | refine below_set ?_ GE131.out) | exact HB.out))) : w.heap.size ≤ gb132)); have n5_ := Aside0.mk ((by rw [hg]; exact (below_size (by repeat (first | (with_reducible first | exact HB.out | apply below_alloc | apply pw_below_drewN | apply below_drew1 | refine below_set ?_ GE130.out | refine below_set ?_ GE131.out) | exact HB.out))) : w.heap.size ≤ gb132)); have n6_ := Aside0.mk ((by rw [hg]; exact Nat.ne_of_lt (blk_lt (g := gb130) (o := .cells #[.int .i64 a1_0, .int .i64 a1_1, .int .i64 a1_2] 29 (0, 0)) (by (with_reducible repeat first | apply blk_drewN | apply blk_drew | apply blk_alloc); exact BK130.out)) : gb130 ≠ gb132)); have n7_ := Aside0.mk ((by rw [hg]; exact Nat.ne_of_gt (blk_lt (g := gb130) (o := .cells #[.int .i64 a1_0, .int .i64 a1_1, .int .i64 a1_2] 29 (0, 0)) (by (with_reducible repeat first | apply blk_drewN | apply blk_drew | apply blk_alloc); exact BK130.out)) : gb132 ≠ gb130)); have n8_ := Aside0.mk ((by rw [hg]; exact Nat.ne_of_lt (blk_lt (g := gb131) (o := .cells #[.int .i64 a2_0, .int .i64 a2_1, .int .i64 a2_2] 29 (0, 0)) (by (with_reducible repeat first | apply blk_drewN | apply blk_drew | apply blk_alloc); exact BK131.out)) : gb131 ≠ gb132)); have n9_ := Aside0.mk ((by rw [hg]; exact Nat.ne_of_gt (blk_lt (g := gb131) (o := .cells #[.int .i64 a2_0, .int .i64 a2_1, .int .i64 a2_2] 29 (0, 0)) (by (with_reducible repeat first | apply blk_drewN | apply blk_drew | apply blk_alloc); exact BK131.out)) : gb132 ≠ gb131)); clear BK130; clear BK131; clear HB; have BK130 := n0_; have BK131 := n1_; have HB := n2_; have BK132 := n3_; have GW132 := n4_; have GE132 := n5_; have NB130_132 := n6_; have NB132_130 := n7_; have NB131_132 := n8_; have NB132_131 := n9_; clear n0_ n1_ n2_ n3_ n4_ n5_ n6_ n7_ n8_ n9_; clear hb hbox hg; have hnb8 := NB130_131.out; have hnc8 := NB131_130.out; have hnb9 := NB130_132.out; have hnc9 := NB132_130.out; have hcz10_0 : w7.cell? ⟨gb130, 0, none⟩ = some (.int .i64 a1_0) := (blk_cell BK130.out 0).trans rfl; have hcz10_1 : w7.cell? ⟨gb130, 1, none⟩ = some (.int .i64 a1_1) := (blk_cell BK130.out 1).trans rfl; have hcz10_2 : w7.cell? ⟨gb130, 2, none⟩ = some (.int .i64 a1_2) := (blk_cell BK130.out 2).trans rfl; have hfz10_0 := blk_frozen BK130.out 0; have hfz10_1 := blk_frozen BK130.out 1; have hfz10_2 := blk_frozen BK130.out 2; have hnb11 := NB131_132.out; have hnc11 := NB132_131.out; have hcz12_0 : w7.cell? ⟨gb131, 0, none⟩ = some (.int .i64 a2_0) := (blk_cell BK131.out 0).trans rfl; have hcz12_1 : w7.cell? ⟨gb131, 1, none⟩ = some (.int .i64 a2_1) := (blk_cell BK131.out 1).trans rfl; have hcz12_2 : w7.cell? ⟨gb131, 2, none⟩ = some (.int .i64 a2_2) := (blk_cell BK131.out 2).trans rfl; have hfz12_0 := blk_frozen BK131.out 0; have hfz12_1 := blk_frozen BK131.out 1; have hfz12_2 := blk_frozen BK131.out 2)); go_upto_region 2 with (first | ((with_reducible refine gate_dst (N := 4) rfl ?_); refine box_event ?hg (N := 4) ?hd (cs := #[.int .i64 a1_0, .int .i64 a1_1, .int .i64 a1_2]) (t := 29) ?hr ?_; (case hd => rfl); (case hg => rfl); (case hr => first | (go_simp; done) | (go_simp; rfl)); intro gb130 hg w5 hbox hb; have n0_ := Aside0.mk (below_step (by repeat (first | (with_reducible first | exact HB.out | apply below_alloc | apply pw_below_drewN | apply below_drew1) | exact HB.out)) hb); have n1_ := Aside0.mk (hbox); have n2_ := Aside0.mk ((by rw [hg]; exact (below_size (by repeat (first | (with_reducible first | exact HB.out | apply below_alloc | apply pw_below_drewN | apply below_drew1) | exact HB.out))) : w.heap.size ≤ gb130)); have n3_ := Aside0.mk ((by rw [hg]; exact (below_size (by repeat (first | (with_reducible first | exact HB.out | apply below_alloc | apply pw_below_drewN | apply below_drew1) | exact HB.out))) : w.heap.size ≤ gb130)); clear HB; have HB := n0_; have BK130 := n1_; have GW130 := n2_; have GE130 := n3_; clear n0_ n1_ n2_ n3_; clear hb hbox hg) | ((with_reducible refine gate_dst (N := 5) rfl ?_); refine box_event ?hg (N := 5) ?hd (cs := #[.int .i64 a2_0, .int .i64 a2_1, .int .i64 a2_2]) (t := 29) ?hr ?_; (case hd => rfl); (case hg => rfl); (case hr => first | (go_simp; done) | (go_simp; rfl)); intro gb131 hg w6 hbox hb; have n0_ := Aside0.mk (blk_below (g := gb130) (o := .cells #[.int .i64 a1_0, .int .i64 a1_1, .int .i64 a1_2] 29 (0, 0)) (by (with_reducible repeat first | apply blk_drewN | apply blk_drew | apply blk_alloc); exact BK130.out) hb); have n1_ := Aside0.mk (below_step (by repeat (first | (with_reducible first | exact HB.out | apply below_alloc | apply pw_below_drewN | apply below_drew1 | refine below_set ?_ GE130.out) | exact HB.out)) hb); have n2_ := Aside0.mk (hbox); have n3_ := Aside0.mk ((by rw [hg]; exact (below_size (by repeat (first | (with_reducible first | exact HB.out | apply below_alloc | apply pw_below_drewN | apply below_drew1 | refine below_set ?_ GE130.out) | exact HB.out))) : w.heap.size ≤ gb131)); have n4_ := Aside0.mk ((by rw [hg]; exact (below_size (by repeat (first | (with_reducible first | exact HB.out | apply below_alloc | apply pw_below_drewN | apply below_drew1 | refine below_set ?_ GE130.out) | exact HB.out))) : w.heap.size ≤ gb131)); have n5_ := Aside0.mk ((by rw [hg]; exact Nat.ne_of_lt (blk_lt (g := gb130) (o := .cells #[.int .i64 a1_0, .int .i64 a1_1, .int .i64 a1_2] 29 (0, 0)) (by (with_reducible repeat first | apply blk_drewN | apply blk_drew | apply blk_alloc); exact BK130.out)) : gb130 ≠ gb131)); have n6_ := Aside0.mk ((by rw [hg]; exact Nat.ne_of_gt (blk_lt (g := gb130) (o := .cells #[.int .i64 a1_0, .int .i64 a1_1, .int .i64 a1_2] 29 (0, 0)) (by (with_reducible repeat first | apply blk_drewN | apply blk_drew | apply blk_alloc); exact BK130.out)) : gb131 ≠ gb130)); clear BK130; clear HB; have BK130 := n0_; have HB := n1_; have BK131 := n2_; have GW131 := n3_; have GE131 := n4_; have NB130_131 := n5_; have NB131_130 := n6_; clear n0_ n1_ n2_ n3_ n4_ n5_ n6_; clear hb hbox hg) | ((with_reducible refine gate_dst (N := 6) rfl ?_); refine box_event ?hg (N := 6) ?hd (cs := #[.int .i64 0, .int .i64 0, .int .i64 0, .int .i64 0]) (t := 26) ?hr ?_; (case hd => rfl); (case hg => rfl); (case hr => first | (go_simp; done) | (go_simp; rfl)); intro gb132 hg w7 hbox hb; have n0_ := Aside0.mk (blk_below (g := gb130) (o := .cells #[.int .i64 a1_0, .int .i64 a1_1, .int .i64 a1_2] 29 (0, 0)) (by (with_reducible repeat first | apply blk_drewN | apply blk_drew | apply blk_alloc); exact BK130.out) hb); have n1_ := Aside0.mk (blk_below (g := gb131) (o := .cells #[.int .i64 a2_0, .int .i64 a2_1, .int .i64 a2_2] 29 (0, 0)) (by (with_reducible repeat first | apply blk_drewN | apply blk_drew | apply blk_alloc); exact BK131.out) hb); have n2_ := Aside0.mk (below_step (by repeat (first | (with_reducible first | exact HB.out | apply below_alloc | apply pw_below_drewN | apply below_drew1 | refine below_set ?_ GE130.out | refine below_set ?_ GE131.out) | exact HB.out)) hb); have n3_ := Aside0.mk (hbox); have n4_ := Aside0.mk ((by rw [hg]; exact (below_size (by repeat (first | (with_reducible first | exact HB.out | apply below_alloc | apply pw_below_drewN | apply below_drew1 | refine below_set ?_ GE130.out | refine below_set ?_ GE131.out) | exact HB.out))) : w.heap.size ≤ gb132)); have n5_ := Aside0.mk ((by rw [hg]; exact (below_size (by repeat (first | (with_reducible first | exact HB.out | apply below_alloc | apply pw_below_drewN | apply below_drew1 | refine below_set ?_ GE130.out | refine below_set ?_ GE131.out) | exact HB.out))) : w.heap.size ≤ gb132)); have n6_ := Aside0.mk ((by rw [hg]; exact Nat.ne_of_lt (blk_lt (g := gb130) (o := .cells #[.int .i64 a1_0, .int .i64 a1_1, .int .i64 a1_2] 29 (0, 0)) (by (with_reducible repeat first | apply blk_drewN | apply blk_drew | apply blk_alloc); exact BK130.out)) : gb130 ≠ gb132)); have n7_ := Aside0.mk ((by rw [hg]; exact Nat.ne_of_gt (blk_lt (g := gb130) (o := .cells #[.int .i64 a1_0, .int .i64 a1_1, .int .i64 a1_2] 29 (0, 0)) (by (with_reducible repeat first | apply blk_drewN | apply blk_drew | apply blk_alloc); exact BK130.out)) : gb132 ≠ gb130)); have n8_ := Aside0.mk ((by rw [hg]; exact Nat.ne_of_lt (blk_lt (g := gb131) (o := .cells #[.int .i64 a2_0, .int .i64 a2_1, .int .i64 a2_2] 29 (0, 0)) (by (with_reducible repeat first | apply blk_drewN | apply blk_drew | apply blk_alloc); exact BK131.out)) : gb131 ≠ gb132)); have n9_ := Aside0.mk ((by rw [hg]; exact Nat.ne_of_gt (blk_lt (g := gb131) (o := .cells #[.int .i64 a2_0, .int .i64 a2_1, .int .i64 a2_2] 29 (0, 0)) (by (with_reducible repeat first | apply blk_drewN | apply blk_drew | apply blk_alloc); exact BK131.out)) : gb132 ≠ gb131)); clear BK130; clear BK131; clear HB; have BK130 := n0_; have BK131 := n1_; have HB := n2_; have BK132 := n3_; have GW132 := n4_; have GE132 := n5_; have NB130_132 := n6_; have NB132_130 := n7_; have NB131_132 := n8_; have NB132_131 := n9_; clear n0_ n1_ n2_ n3_ n4_ n5_ n6_ n7_ n8_ n9_; clear hb hbox hg; have hnb8 := NB130_131.out; have hnc8 := NB131_130.out; have hnb9 := NB130_132.out; have hnc9 := NB132_130.out; have hcz10_0 : w7.cell? ⟨gb130, 0, none⟩ = some (.int .i64 a1_0) := (blk_cell BK130.out 0).trans rfl; have hcz10_1 : w7.cell? ⟨gb130, 1, none⟩ = some (.int .i64 a1_1) := (blk_cell BK130.out 1).trans rfl; have hcz10_2 : w7.cell? ⟨gb130, 2, none⟩ = some (.int .i64 a1_2) := (blk_cell BK130.out 2).trans rfl; have hfz10_0 := blk_frozen BK130.out 0; have hfz10_1 := blk_frozen BK130.out 1; have hfz10_2 := blk_frozen BK130.out 2; have hnb11 := NB131_132.out; have hnc11 := NB132_131.out; have hcz12_0 : w7.cell? ⟨gb131, 0, none⟩ = some (.int .i64 a2_0) := (blk_cell BK131.out 0).trans rfl; have hcz12_1 : w7.cell? ⟨gb131, 1, none⟩ = some (.int .i64 a2_1) := (blk_cell BK131.out 1).trans rfl; have hcz12_2 : w7.cell? ⟨gb131, 2, none⟩ = some (.int .i64 a2_2) := (blk_cell BK131.out 2).trans rfl; have hfz12_0 := blk_frozen BK131.out 0; have hfz12_1 := blk_frozen BK131.out 1; have hfz12_2 := blk_frozen BK131.out 2)))
 (try simp only [Act.put, lstS, lstZ, lstC])
 go_cut [43] (fun v43 wc => ∃ (kq : Nat) (x43_3 : Bool), v43 = .bool x43_3 ∧ Aside0 (spec_l09Paired.j0 kq a0 (wrap64 ((wrap64 (a1_0 + a2_0)) - 1)) x43_3 a1_0 a1_1 a1_2 a2_0 a2_1 a2_2 = some (r1, r2, r3, r4, r5)) ∧ Aside0 (kq ≤ k) ∧ Aside0 (wc.heap[gb130]? = some (.cells #[.int .i64 a1_0, .int .i64 a1_1, .int .i64 a1_2] 29 (0, 0))) ∧ Aside0 (wc.heap[gb131]? = some (.cells #[.int .i64 a2_0, .int .i64 a2_1, .int .i64 a2_2] 29 (0, 0))) ∧ Aside0 (wc.heap[gb132]? = some (.cells #[.int .i64 0, .int .i64 0, .int .i64 0, .int .i64 0] 26 (0, 0))) ∧ Aside0 (Below w.heap.size w wc))
 case first =>
  have H := HC4.out
  clear HC4
  by_cases c13 : a1_1 > 1000000
  ·rw [if_pos c13] at H
   have c13b0 : decide (1000000 < a1_1) = true := decide_eq_true c13
   clear c13
   (first | rw [c13b0] | (simp only [i64_w, i32_w]; rw [c13b0]) | skip)
   have H' := Aside0.mk H
   clear H
   have hnb14 := NB130_131.out
   have hnc14 := NB131_130.out
   have hnb15 := NB130_132.out
   have hnc15 := NB132_130.out
   have hcz16_0 : w7.cell? ⟨gb130, 0, none⟩ = some (.int .i64 a1_0) := (blk_cell BK130.out 0).trans rfl
   have hcz16_1 : w7.cell? ⟨gb130, 1, none⟩ = some (.int .i64 a1_1) := (blk_cell BK130.out 1).trans rfl
   have hcz16_2 : w7.cell? ⟨gb130, 2, none⟩ = some (.int .i64 a1_2) := (blk_cell BK130.out 2).trans rfl
   have hfz16_0 := blk_frozen BK130.out 0
   have hfz16_1 := blk_frozen BK130.out 1
   have hfz16_2 := blk_frozen BK130.out 2
   go_wp2
   repeat (go_quiet (fail); try go_wp2)
   go_meet
   case rel => exact ⟨_, (true), (by first | rfl | (simp; done) | (simp [*]; done) | (simp [wrap64]; done)), H', ⟨by first | omega | exact Nat.le_refl _⟩, ⟨by (with_reducible repeat first | apply blk_drewN | apply blk_drew | apply blk_alloc); exact BK130.out⟩, ⟨by (with_reducible repeat first | apply blk_drewN | apply blk_drew | apply blk_alloc); exact BK131.out⟩, ⟨by (with_reducible repeat first | apply blk_drewN | apply blk_drew | apply blk_alloc); exact BK132.out⟩, ⟨by repeat (first | (with_reducible first | exact HB.out | apply below_alloc | apply pw_below_drewN | apply below_drew1 | refine below_set ?_ GE130.out | refine below_set ?_ GE131.out | refine below_set ?_ GE132.out) | exact HB.out)⟩⟩
  ·rw [if_neg c13] at H
   have c13b0 : decide (1000000 < a1_1) = false := decide_eq_false c13
   clear c13
   (first | rw [c13b0] | (simp only [i64_w, i32_w]; rw [c13b0]) | skip)
   by_cases c17 : a2_1 > 1000000
   ·rw [if_pos c17] at H
    have c17b0 : decide (1000000 < a2_1) = true := decide_eq_true c17
    clear c17
    have H' := Aside0.mk H
    clear H
    have hnb18 := NB130_131.out
    have hnc18 := NB131_130.out
    have hnb19 := NB130_132.out
    have hnc19 := NB132_130.out
    have hcz20_0 : w7.cell? ⟨gb130, 0, none⟩ = some (.int .i64 a1_0) := (blk_cell BK130.out 0).trans rfl
    have hcz20_1 : w7.cell? ⟨gb130, 1, none⟩ = some (.int .i64 a1_1) := (blk_cell BK130.out 1).trans rfl
    have hcz20_2 : w7.cell? ⟨gb130, 2, none⟩ = some (.int .i64 a1_2) := (blk_cell BK130.out 2).trans rfl
    have hfz20_0 := blk_frozen BK130.out 0
    have hfz20_1 := blk_frozen BK130.out 1
    have hfz20_2 := blk_frozen BK130.out 2
    have hnb21 := NB131_132.out
    have hnc21 := NB132_131.out
    have hcz22_0 : w7.cell? ⟨gb131, 0, none⟩ = some (.int .i64 a2_0) := (blk_cell BK131.out 0).trans rfl
    have hcz22_1 : w7.cell? ⟨gb131, 1, none⟩ = some (.int .i64 a2_1) := (blk_cell BK131.out 1).trans rfl
    have hcz22_2 : w7.cell? ⟨gb131, 2, none⟩ = some (.int .i64 a2_2) := (blk_cell BK131.out 2).trans rfl
    have hfz22_0 := blk_frozen BK131.out 0
    have hfz22_1 := blk_frozen BK131.out 1
    have hfz22_2 := blk_frozen BK131.out 2
    go_wp2
    repeat (go_quiet (fail); try go_wp2)
    go_meet
    case rel => exact ⟨_, (true), (by first | rfl | (simp; done) | (simp [*]; done) | (simp [wrap64]; done)), H', ⟨by first | omega | exact Nat.le_refl _⟩, ⟨by (with_reducible repeat first | apply blk_drewN | apply blk_drew | apply blk_alloc); exact BK130.out⟩, ⟨by (with_reducible repeat first | apply blk_drewN | apply blk_drew | apply blk_alloc); exact BK131.out⟩, ⟨by (with_reducible repeat first | apply blk_drewN | apply blk_drew | apply blk_alloc); exact BK132.out⟩, ⟨by repeat (first | (with_reducible first | exact HB.out | apply below_alloc | apply pw_below_drewN | apply below_drew1 | refine below_set ?_ GE130.out | refine below_set ?_ GE131.out | refine below_set ?_ GE132.out) | exact HB.out)⟩⟩
   ·rw [if_neg c17] at H
    have c17b0 : decide (1000000 < a2_1) = false := decide_eq_false c17
    clear c17
    by_cases c23 : a0 = 7
    ·rw [if_pos c23] at H
     have c23b0 : (a0 == 7) = true := beq_iff_eq.mpr c23
     have c23b1 : (a0 != 7) = false := bne_eq_false_iff_eq.mpr c23
     clear c23
     have H' := Aside0.mk H
     clear H
     have hnb24 := NB130_131.out
     have hnc24 := NB131_130.out
     have hnb25 := NB130_132.out
     have hnc25 := NB132_130.out
     have hcz26_0 : w7.cell? ⟨gb130, 0, none⟩ = some (.int .i64 a1_0) := (blk_cell BK130.out 0).trans rfl
     have hcz26_1 : w7.cell? ⟨gb130, 1, none⟩ = some (.int .i64 a1_1) := (blk_cell BK130.out 1).trans rfl
     have hcz26_2 : w7.cell? ⟨gb130, 2, none⟩ = some (.int .i64 a1_2) := (blk_cell BK130.out 2).trans rfl
     have hfz26_0 := blk_frozen BK130.out 0
     have hfz26_1 := blk_frozen BK130.out 1
     have hfz26_2 := blk_frozen BK130.out 2
     have hnb27 := NB131_132.out
     have hnc27 := NB132_131.out
     have hcz28_0 : w7.cell? ⟨gb131, 0, none⟩ = some (.int .i64 a2_0) := (blk_cell BK131.out 0).trans rfl
     have hcz28_1 : w7.cell? ⟨gb131, 1, none⟩ = some (.int .i64 a2_1) := (blk_cell BK131.out 1).trans rfl
     have hcz28_2 : w7.cell? ⟨gb131, 2, none⟩ = some (.int .i64 a2_2) := (blk_cell BK131.out 2).trans rfl
     have hfz28_0 := blk_frozen BK131.out 0
     have hfz28_1 := blk_frozen BK131.out 1
     have hfz28_2 := blk_frozen BK131.out 2
     go_wp2
     repeat (go_quiet (fail); try go_wp2)
     go_meet
     case rel => exact ⟨_, (((wrap64 (a1_2 + a2_2)) == 12)), (by first | rfl | (simp; done) | (simp [*]; done) | (simp [wrap64]; done)), H', ⟨by first | omega | exact Nat.le_refl _⟩, ⟨by (with_reducible repeat first | apply blk_drewN | apply blk_drew | apply blk_alloc); exact BK130.out⟩, ⟨by (with_reducible repeat first | apply blk_drewN | apply blk_drew | apply blk_alloc); exact BK131.out⟩, ⟨by (with_reducible repeat first | apply blk_drewN | apply blk_drew | apply blk_alloc); exact BK132.out⟩, ⟨by repeat (first | (with_reducible first | exact HB.out | apply below_alloc | apply pw_below_drewN | apply below_drew1 | refine below_set ?_ GE130.out | refine below_set ?_ GE131.out | refine below_set ?_ GE132.out) | exact HB.out)⟩⟩
    ·rw [if_neg c23] at H
     have c23b0 : (a0 == 7) = false := beq_eq_false_iff_ne.mpr c23
     have c23b1 : (a0 != 7) = true := bne_iff_ne.mpr c23
     have H' := Aside0.mk H
     clear H
     have hnb29 := NB130_131.out
     have hnc29 := NB131_130.out
     have hnb30 := NB130_132.out
     have hnc30 := NB132_130.out
     have hcz31_0 : w7.cell? ⟨gb130, 0, none⟩ = some (.int .i64 a1_0) := (blk_cell BK130.out 0).trans rfl
     have hcz31_1 : w7.cell? ⟨gb130, 1, none⟩ = some (.int .i64 a1_1) := (blk_cell BK130.out 1).trans rfl
     have hcz31_2 : w7.cell? ⟨gb130, 2, none⟩ = some (.int .i64 a1_2) := (blk_cell BK130.out 2).trans rfl
     have hfz31_0 := blk_frozen BK130.out 0
     have hfz31_1 := blk_frozen BK130.out 1
     have hfz31_2 := blk_frozen BK130.out 2
     have hnb32 := NB131_132.out
     have hnc32 := NB132_131.out
     have hcz33_0 : w7.cell? ⟨gb131, 0, none⟩ = some (.int .i64 a2_0) := (blk_cell BK131.out 0).trans rfl
     have hcz33_1 : w7.cell? ⟨gb131, 1, none⟩ = some (.int .i64 a2_1) := (blk_cell BK131.out 1).trans rfl
     have hcz33_2 : w7.cell? ⟨gb131, 2, none⟩ = some (.int .i64 a2_2) := (blk_cell BK131.out 2).trans rfl
     have hfz33_0 := blk_frozen BK131.out 0
     have hfz33_1 := blk_frozen BK131.out 1
     have hfz33_2 := blk_frozen BK131.out 2
     go_wp2
     repeat (go_quiet (fail); try go_wp2)
     go_meet
     case rel => exact ⟨_, (false), (by first | rfl | (simp; done) | (simp [*]; done) | (simp [wrap64]; done)), H', ⟨by first | omega | exact Nat.le_refl _⟩, ⟨by (with_reducible repeat first | apply blk_drewN | apply blk_drew | apply blk_alloc); exact BK130.out⟩, ⟨by (with_reducible repeat first | apply blk_drewN | apply blk_drew | apply blk_alloc); exact BK131.out⟩, ⟨by (with_reducible repeat first | apply blk_drewN | apply blk_drew | apply blk_alloc); exact BK132.out⟩, ⟨by repeat (first | (with_reducible first | exact HB.out | apply below_alloc | apply pw_below_drewN | apply below_drew1 | refine below_set ?_ GE130.out | refine below_set ?_ GE131.out | refine below_set ?_ GE132.out) | exact HB.out)⟩⟩
 case rest =>
  clear HC4
  try clear c1
  try clear c2
  try clear p2
  try clear c3
  try clear c4
  try clear p6
  try clear c8
  try clear c9
  try clear c11
  try clear c13
  try clear c13b0
  try clear c14
  try clear c15
  try clear c17
  try clear c17b0
  try clear c18
  try clear c19
  try clear c21
  try clear c23
  try clear c23b0
  try clear c23b1
  try clear c24
  try clear c25
  try clear c27
  try clear c29
  try clear c30
  try clear c32
  try clear hcz10_0
  try clear hcz10_1
  try clear hcz10_2
  try clear hcz12_0
  try clear hcz12_1
  try clear hcz12_2
  try clear hcz16_0
  try clear hcz16_1
  try clear hcz16_2
  try clear hcz20_0
  try clear hcz20_1
  try clear hcz20_2
  try clear hcz22_0
  try clear hcz22_1
  try clear hcz22_2
  try clear hcz26_0
  try clear hcz26_1
  try clear hcz26_2
  try clear hcz28_0
  try clear hcz28_1
  try clear hcz28_2
  try clear hcz31_0
  try clear hcz31_1
  try clear hcz31_2
  try clear hcz33_0
  try clear hcz33_1
  try clear hcz33_2
  try clear hfz10_0
  try clear hfz10_1
  try clear hfz10_2
  try clear hfz12_0
  try clear hfz12_1
  try clear hfz12_2
  try clear hfz16_0
  try clear hfz16_1
  try clear hfz16_2
  try clear hfz20_0
  try clear hfz20_1
  try clear hfz20_2
  try clear hfz22_0
  try clear hfz22_1
  try clear hfz22_2
  try clear hfz26_0
  try clear hfz26_1
  try clear hfz26_2
  try clear hfz28_0
  try clear hfz28_1
  try clear hfz28_2
  try clear hfz31_0
  try clear hfz31_1
  try clear hfz31_2
  try clear hfz33_0
  try clear hfz33_1
  try clear hfz33_2
  obtain ⟨kq, x43_3, rfl, HA, HJ3, BK130, BK131, BK132, HB⟩ := hcut
  cases kq with
  | zero => exact absurd HA.out (by simp [spec_l09Paired.j0])
  | succ kj3 =>
   have H := HA.out
   clear HA
   simp only [spec_l09Paired.j0] at H
   by_cases c34 : x43_3 = true
   ·subst c34
    have H1 : (some (0, 0, 0, 0, false)) = some (r1, r2, r3, r4, r5) := by rw [if_pos rfl] at H; exact H
    clear H
    have H := H1
    clear H1
    simp only [Option.some.injEq, Prod.mk.injEq] at H
    obtain ⟨rfl, rfl, rfl, rfl, rfl⟩ := H
    have hnb35 := NB132_130.out
    have hnc35 := NB130_132.out
    have hnb36 := NB132_131.out
    have hnc36 := NB131_132.out
    have hcz37_0 : wc.cell? ⟨gb132, 0, none⟩ = some (.int .i64 0) := (blk_cell BK132.out 0).trans rfl
    have hcz37_1 : wc.cell? ⟨gb132, 1, none⟩ = some (.int .i64 0) := (blk_cell BK132.out 1).trans rfl
    have hcz37_2 : wc.cell? ⟨gb132, 2, none⟩ = some (.int .i64 0) := (blk_cell BK132.out 2).trans rfl
    have hcz37_3 : wc.cell? ⟨gb132, 3, none⟩ = some (.int .i64 0) := (blk_cell BK132.out 3).trans rfl
    have hfz37_0 := blk_frozen BK132.out 0
    have hfz37_1 := blk_frozen BK132.out 1
    have hfz37_2 := blk_frozen BK132.out 2
    have hfz37_3 := blk_frozen BK132.out 3
    go_wp2
    repeat (go_quiet (fail); try go_wp2)
    refine bodyPost_ret (results_ct rfl _ _ gb132 26 #[.int .i64 0, .int .i64 0, .int .i64 0, .int .i64 0] (0, 0) _ rfl (by (with_reducible repeat first | apply blk_drewN | apply blk_drew | apply blk_alloc); refine blk_put (cs := #[.int .i64 0, .int .i64 0, .int .i64 0, .int .i64 0]) ?_ 3 _ rfl; (with_reducible repeat first | apply blk_drewN | apply blk_drew | apply blk_alloc); refine blk_put (cs := #[.int .i64 0, .int .i64 0, .int .i64 0, .int .i64 0]) ?_ 2 _ rfl; (with_reducible repeat first | apply blk_drewN | apply blk_drew | apply blk_alloc); refine blk_put (cs := #[.int .i64 0, .int .i64 0, .int .i64 0, .int .i64 0]) ?_ 1 _ rfl; (with_reducible repeat first | apply blk_drewN | apply blk_drew | apply blk_alloc); refine blk_put (cs := #[.int .i64 0, .int .i64 0, .int .i64 0, .int .i64 0]) ?_ 0 _ rfl; (with_reducible repeat first | apply blk_drewN | apply blk_drew | apply blk_alloc); exact BK132.out) Try.underlying26 rfl (by kernel_rfl)) rfl ?_
    exact ⟨by first | rfl | (simp [errW_none, errW_some] <;> rfl) | (simp [*, errW_none, errW_some] <;> rfl), by repeat (first | (with_reducible first | exact HB.out | apply below_alloc | apply pw_below_drewN | apply below_drew1 | refine below_set ?_ GE130.out | refine below_set ?_ GE131.out | refine below_set ?_ GE132.out) | exact HB.out)⟩
   ·replace c34 := Bool.eq_false_iff.mpr c34
    subst c34
    have H1 : ((spec_l01Power.f kj3 a0 a1_2).bind fun t133 => ((spec_l01Power.f kj3 a0 a2_2).bind fun t134 => ((spec_l01Power.f kj3 a0 (mx (wrap64 ((wrap64 (a1_0 + a2_0)) - 1)) 0)).bind fun t135 => ((spec_l01Power.f kj3 a0 (mx (wrap64 (-(wrap64 ((wrap64 (a1_0 + a2_0)) - 1)))) 0)).bind fun t136 => (spec_l09Paired.l0 kj3 0 0 (wrap64 ((wrap64 (a2_1 * t133)) * t136)) (wrap64 ((wrap64 ((wrap64 (t135 * t133)) * t134)) - (wrap64 ((wrap64 (a1_1 * a2_1)) * t136)))) (wrap64 ((wrap64 (t133 * t134)) * t136)) (wrap64 ((wrap64 ((wrap64 (-a1_1)) * t134)) * t136))))))) = some (r1, r2, r3, r4, r5) := by rw [if_neg (show ¬ (false = true) by decide)] at H; exact H
    clear H
    have H := H1
    clear H1
    replace H := Option.bind_eq_some_iff.mp H
    obtain ⟨t133, A380, H⟩ := H
    replace H : ((spec_l01Power.f kj3 a0 a2_2).bind fun t134 => ((spec_l01Power.f kj3 a0 (mx (wrap64 ((wrap64 (a1_0 + a2_0)) - 1)) 0)).bind fun t135 => ((spec_l01Power.f kj3 a0 (mx (wrap64 (-(wrap64 ((wrap64 (a1_0 + a2_0)) - 1)))) 0)).bind fun t136 => (spec_l09Paired.l0 kj3 0 0 (wrap64 ((wrap64 (a2_1 * t133)) * t136)) (wrap64 ((wrap64 ((wrap64 (t135 * t133)) * t134)) - (wrap64 ((wrap64 (a1_1 * a2_1)) * t136)))) (wrap64 ((wrap64 (t133 * t134)) * t136)) (wrap64 ((wrap64 ((wrap64 (-a1_1)) * t134)) * t136)))))) = some (r1, r2, r3, r4, r5) := H
    have A38 := Aside0.mk A380
    clear A380
    replace H := Option.bind_eq_some_iff.mp H
    obtain ⟨t134, A390, H⟩ := H
    replace H : ((spec_l01Power.f kj3 a0 (mx (wrap64 ((wrap64 (a1_0 + a2_0)) - 1)) 0)).bind fun t135 => ((spec_l01Power.f kj3 a0 (mx (wrap64 (-(wrap64 ((wrap64 (a1_0 + a2_0)) - 1)))) 0)).bind fun t136 => (spec_l09Paired.l0 kj3 0 0 (wrap64 ((wrap64 (a2_1 * t133)) * t136)) (wrap64 ((wrap64 ((wrap64 (t135 * t133)) * t134)) - (wrap64 ((wrap64 (a1_1 * a2_1)) * t136)))) (wrap64 ((wrap64 (t133 * t134)) * t136)) (wrap64 ((wrap64 ((wrap64 (-a1_1)) * t134)) * t136))))) = some (r1, r2, r3, r4, r5) := H
    have A39 := Aside0.mk A390
    clear A390
    obtain ⟨ji40, hji40⟩ : ∃ j_ : Int, (mx (wrap64 ((wrap64 (a1_0 + a2_0)) - 1)) 0) = j_ := ⟨_, rfl⟩
    replace H : ((spec_l01Power.f kj3 a0 (ji40)).bind fun t135 => ((spec_l01Power.f kj3 a0 (mx (wrap64 (-(wrap64 ((wrap64 (a1_0 + a2_0)) - 1)))) 0)).bind fun t136 => (spec_l09Paired.l0 kj3 0 0 (wrap64 ((wrap64 (a2_1 * t133)) * t136)) (wrap64 ((wrap64 ((wrap64 (t135 * t133)) * t134)) - (wrap64 ((wrap64 (a1_1 * a2_1)) * t136)))) (wrap64 ((wrap64 (t133 * t134)) * t136)) (wrap64 ((wrap64 ((wrap64 (-a1_1)) * t134)) * t136))))) = some (r1, r2, r3, r4, r5) := by first | (rw [hji40] at H; exact H) | (simp only [hji40] at H ⊢; exact H)
    (try rw [hji40] at A38)
    (try rw [hji40] at A39)
    have hji40_ : (if (wrap64 ((wrap64 (a1_0 + a2_0)) - 1)) < 0 then 0 else (wrap64 ((wrap64 (a1_0 + a2_0)) - 1))) = ji40 := hji40
    replace H := Option.bind_eq_some_iff.mp H
    obtain ⟨t135, A410, H⟩ := H
    replace H : ((spec_l01Power.f kj3 a0 (mx (wrap64 (-(wrap64 ((wrap64 (a1_0 + a2_0)) - 1)))) 0)).bind fun t136 => (spec_l09Paired.l0 kj3 0 0 (wrap64 ((wrap64 (a2_1 * t133)) * t136)) (wrap64 ((wrap64 ((wrap64 (t135 * t133)) * t134)) - (wrap64 ((wrap64 (a1_1 * a2_1)) * t136)))) (wrap64 ((wrap64 (t133 * t134)) * t136)) (wrap64 ((wrap64 ((wrap64 (-a1_1)) * t134)) * t136)))) = some (r1, r2, r3, r4, r5) := H
    have A41 := Aside0.mk A410
    clear A410
    obtain ⟨ji42, hji42⟩ : ∃ j_ : Int, (mx (wrap64 (-(wrap64 ((wrap64 (a1_0 + a2_0)) - 1)))) 0) = j_ := ⟨_, rfl⟩
    replace H : ((spec_l01Power.f kj3 a0 (ji42)).bind fun t136 => (spec_l09Paired.l0 kj3 0 0 (wrap64 ((wrap64 (a2_1 * t133)) * t136)) (wrap64 ((wrap64 ((wrap64 (t135 * t133)) * t134)) - (wrap64 ((wrap64 (a1_1 * a2_1)) * t136)))) (wrap64 ((wrap64 (t133 * t134)) * t136)) (wrap64 ((wrap64 ((wrap64 (-a1_1)) * t134)) * t136)))) = some (r1, r2, r3, r4, r5) := by first | (rw [hji42] at H; exact H) | (simp only [hji42] at H ⊢; exact H)
    (try rw [hji42] at A38)
    (try rw [hji42] at A39)
    (try rw [hji42] at A41)
    have hji42_ : (if (wrap64 (-(wrap64 ((wrap64 (a1_0 + a2_0)) - 1)))) < 0 then 0 else (wrap64 (-(wrap64 ((wrap64 (a1_0 + a2_0)) - 1))))) = ji42 := hji42
    have hji42_k : (if IntKind.i64.wrap (-(wrap64 ((wrap64 (a1_0 + a2_0)) - 1))) < 0 then 0 else IntKind.i64.wrap (-(wrap64 ((wrap64 (a1_0 + a2_0)) - 1)))) = ji42 := by simp only [i64_w]; exact hji42_
    replace H := Option.bind_eq_some_iff.mp H
    obtain ⟨t136, A430, H⟩ := H
    replace H : (spec_l09Paired.l0 kj3 0 0 (wrap64 ((wrap64 (a2_1 * t133)) * t136)) (wrap64 ((wrap64 ((wrap64 (t135 * t133)) * t134)) - (wrap64 ((wrap64 (a1_1 * a2_1)) * t136)))) (wrap64 ((wrap64 (t133 * t134)) * t136)) (wrap64 ((wrap64 ((wrap64 (-a1_1)) * t134)) * t136))) = some (r1, r2, r3, r4, r5) := H
    have A43 := Aside0.mk A430
    clear A430
    have H' := Aside0.mk H
    clear H
    have hnb44 := NB130_131.out
    have hnc44 := NB131_130.out
    have hnb45 := NB130_132.out
    have hnc45 := NB132_130.out
    have hcz46_0 : wc.cell? ⟨gb130, 0, none⟩ = some (.int .i64 a1_0) := (blk_cell BK130.out 0).trans rfl
    have hcz46_1 : wc.cell? ⟨gb130, 1, none⟩ = some (.int .i64 a1_1) := (blk_cell BK130.out 1).trans rfl
    have hcz46_2 : wc.cell? ⟨gb130, 2, none⟩ = some (.int .i64 a1_2) := (blk_cell BK130.out 2).trans rfl
    have hfz46_0 := blk_frozen BK130.out 0
    have hfz46_1 := blk_frozen BK130.out 1
    have hfz46_2 := blk_frozen BK130.out 2
    go_wp2_with (first | (go_at_call 84; (with_reducible refine (spec_l01Power.calls kj3 a0 a1_2 t133 _ A38.out).mono ?_); rintro e w' ⟨rfl, ⟨nd, rfl⟩⟩; (try first | exact ⟨rfl, _, World.drewN_drewN _ _ _⟩ | exact ⟨rfl, _, Eq.trans (World.drewN_drewN _ _ _) (congrArg (World.drewN _) (Nat.add_assoc _ _ _))⟩); have hnb47 := NB131_132.out; have hnc47 := NB132_131.out; have hcz48_0 : wc.cell? ⟨gb131, 0, none⟩ = some (.int .i64 a2_0) := (blk_cell BK131.out 0).trans rfl; have hcz48_1 : wc.cell? ⟨gb131, 1, none⟩ = some (.int .i64 a2_1) := (blk_cell BK131.out 1).trans rfl; have hcz48_2 : wc.cell? ⟨gb131, 2, none⟩ = some (.int .i64 a2_2) := (blk_cell BK131.out 2).trans rfl; have hfz48_0 := blk_frozen BK131.out 0; have hfz48_1 := blk_frozen BK131.out 1; have hfz48_2 := blk_frozen BK131.out 2) | (go_at_call 84; (with_reducible refine (spec_l01Power.calls kj3 a0 a2_2 t134 _ A39.out).mono ?_); rintro e w' ⟨rfl, ⟨nd, rfl⟩⟩; (try first | exact ⟨rfl, _, World.drewN_drewN _ _ _⟩ | exact ⟨rfl, _, Eq.trans (World.drewN_drewN _ _ _) (congrArg (World.drewN _) (Nat.add_assoc _ _ _))⟩)) | (go_at_call 84; (with_reducible refine (spec_l01Power.calls kj3 a0 ji40 t135 _ A41.out).mono ?_); rintro e w' ⟨rfl, ⟨nd, rfl⟩⟩; (try first | exact ⟨rfl, _, World.drewN_drewN _ _ _⟩ | exact ⟨rfl, _, Eq.trans (World.drewN_drewN _ _ _) (congrArg (World.drewN _) (Nat.add_assoc _ _ _))⟩)) | (go_at_call 84; (try simp only [i64_w, hji42_]); (with_reducible refine (spec_l01Power.calls kj3 a0 ji42 t136 _ A43.out).mono ?_); rintro e w' ⟨rfl, ⟨nd, rfl⟩⟩; (try first | exact ⟨rfl, _, World.drewN_drewN _ _ _⟩ | exact ⟨rfl, _, Eq.trans (World.drewN_drewN _ _ _) (congrArg (World.drewN _) (Nat.add_assoc _ _ _))⟩)) | ((with_reducible refine gate_dst (N := 13) rfl ?_); refine box_event ?hg (N := 13) ?hd (cs := #[.int .i64 0, .int .i64 0, .int .i64 0, .int .i64 0]) (t := 98) ?hr ?_; (case hd => rfl); (case hg => rfl); (case hr => first | (go_simp; done) | (go_simp; rfl)); intro gb137 hg w49 hbox hb; have n0_ := Aside0.mk (blk_below (g := gb130) (o := .cells #[.int .i64 a1_0, .int .i64 a1_1, .int .i64 a1_2] 29 (0, 0)) (by (with_reducible repeat first | apply blk_drewN | apply blk_drew | apply blk_alloc); exact BK130.out) hb); have n1_ := Aside0.mk (blk_below (g := gb131) (o := .cells #[.int .i64 a2_0, .int .i64 a2_1, .int .i64 a2_2] 29 (0, 0)) (by (with_reducible repeat first | apply blk_drewN | apply blk_drew | apply blk_alloc); exact BK131.out) hb); have n2_ := Aside0.mk (blk_below (g := gb132) (o := .cells #[.int .i64 0, .int .i64 0, .int .i64 0, .int .i64 0] 26 (0, 0)) (by (with_reducible repeat first | apply blk_drewN | apply blk_drew | apply blk_alloc); exact BK132.out) hb); have n3_ := Aside0.mk (below_step (by repeat (first | (with_reducible first | exact HB.out | apply below_alloc | apply pw_below_drewN | apply below_drew1 | refine below_set ?_ GE130.out | refine below_set ?_ GE131.out | refine below_set ?_ GE132.out) | exact HB.out)) hb); have n4_ := Aside0.mk (hbox); have n5_ := Aside0.mk ((by rw [hg]; exact (below_size (by repeat (first | (with_reducible first | exact HB.out | apply below_alloc | apply pw_below_drewN | apply below_drew1 | refine below_set ?_ GE130.out | refine below_set ?_ GE131.out | refine below_set ?_ GE132.out) | exact HB.out))) : w.heap.size ≤ gb137)); have n6_ := Aside0.mk ((by rw [hg]; exact (below_size (by repeat (first | (with_reducible first | exact HB.out | apply below_alloc | apply pw_below_drewN | apply below_drew1 | refine below_set ?_ GE130.out | refine below_set ?_ GE131.out | refine below_set ?_ GE132.out) | exact HB.out))) : w.heap.size ≤ gb137)); have n7_ := Aside0.mk ((by rw [hg]; exact Nat.ne_of_lt (blk_lt (g := gb130) (o := .cells #[.int .i64 a1_0, .int .i64 a1_1, .int .i64 a1_2] 29 (0, 0)) (by (with_reducible repeat first | apply blk_drewN | apply blk_drew | apply blk_alloc); exact BK130.out)) : gb130 ≠ gb137)); have n8_ := Aside0.mk ((by rw [hg]; exact Nat.ne_of_gt (blk_lt (g := gb130) (o := .cells #[.int .i64 a1_0, .int .i64 a1_1, .int .i64 a1_2] 29 (0, 0)) (by (with_reducible repeat first | apply blk_drewN | apply blk_drew | apply blk_alloc); exact BK130.out)) : gb137 ≠ gb130)); have n9_ := Aside0.mk ((by rw [hg]; exact Nat.ne_of_lt (blk_lt (g := gb131) (o := .cells #[.int .i64 a2_0, .int .i64 a2_1, .int .i64 a2_2] 29 (0, 0)) (by (with_reducible repeat first | apply blk_drewN | apply blk_drew | apply blk_alloc); exact BK131.out)) : gb131 ≠ gb137)); have n10_ := Aside0.mk ((by rw [hg]; exact Nat.ne_of_gt (blk_lt (g := gb131) (o := .cells #[.int .i64 a2_0, .int .i64 a2_1, .int .i64 a2_2] 29 (0, 0)) (by (with_reducible repeat first | apply blk_drewN | apply blk_drew | apply blk_alloc); exact BK131.out)) : gb137 ≠ gb131)); have n11_ := Aside0.mk ((by rw [hg]; exact Nat.ne_of_lt (blk_lt (g := gb132) (o := .cells #[.int .i64 0, .int .i64 0, .int .i64 0, .int .i64 0] 26 (0, 0)) (by (with_reducible repeat first | apply blk_drewN | apply blk_drew | apply blk_alloc); exact BK132.out)) : gb132 ≠ gb137)); have n12_ := Aside0.mk ((by rw [hg]; exact Nat.ne_of_gt (blk_lt (g := gb132) (o := .cells #[.int .i64 0, .int .i64 0, .int .i64 0, .int .i64 0] 26 (0, 0)) (by (with_reducible repeat first | apply blk_drewN | apply blk_drew | apply blk_alloc); exact BK132.out)) : gb137 ≠ gb132)); clear BK130; clear BK131; clear BK132; clear HB; have BK130 := n0_; have BK131 := n1_; have BK132 := n2_; have HB := n3_; have BK137 := n4_; have GW137 := n5_; have GE137 := n6_; have NB130_137 := n7_; have NB137_130 := n8_; have NB131_137 := n9_; have NB137_131 := n10_; have NB132_137 := n11_; have NB137_132 := n12_; clear n0_ n1_ n2_ n3_ n4_ n5_ n6_ n7_ n8_ n9_ n10_ n11_ n12_; clear hb hbox hg; have hnb50 := NB137_130.out; have hnc50 := NB130_137.out; have hnb51 := NB137_131.out; have hnc51 := NB131_137.out; have hnb52 := NB137_132.out; have hnc52 := NB132_137.out; have hcz53_0 : w49.cell? ⟨gb137, 0, none⟩ = some (.int .i64 0) := (blk_cell BK137.out 0).trans rfl; have hcz53_1 : w49.cell? ⟨gb137, 1, none⟩ = some (.int .i64 0) := (blk_cell BK137.out 1).trans rfl; have hcz53_2 : w49.cell? ⟨gb137, 2, none⟩ = some (.int .i64 0) := (blk_cell BK137.out 2).trans rfl; have hcz53_3 : w49.cell? ⟨gb137, 3, none⟩ = some (.int .i64 0) := (blk_cell BK137.out 3).trans rfl; have hfz53_0 := blk_frozen BK137.out 0; have hfz53_1 := blk_frozen BK137.out 1; have hfz53_2 := blk_frozen BK137.out 2; have hfz53_3 := blk_frozen BK137.out 3))
    repeat (go_quiet (first | (go_at_call 84; (with_reducible refine (spec_l01Power.calls kj3 a0 a1_2 t133 _ A38.out).mono ?_); rintro e w' ⟨rfl, ⟨nd, rfl⟩⟩; (try first | exact ⟨rfl, _, World.drewN_drewN _ _ _⟩ | exact ⟨rfl, _, Eq.trans (World.drewN_drewN _ _ _) (congrArg (World.drewN _) (Nat.add_assoc _ _ _))⟩); have hnb47 := NB131_132.out; have hnc47 := NB132_131.out; have hcz48_0 : wc.cell? ⟨gb131, 0, none⟩ = some (.int .i64 a2_0) := (blk_cell BK131.out 0).trans rfl; have hcz48_1 : wc.cell? ⟨gb131, 1, none⟩ = some (.int .i64 a2_1) := (blk_cell BK131.out 1).trans rfl; have hcz48_2 : wc.cell? ⟨gb131, 2, none⟩ = some (.int .i64 a2_2) := (blk_cell BK131.out 2).trans rfl; have hfz48_0 := blk_frozen BK131.out 0; have hfz48_1 := blk_frozen BK131.out 1; have hfz48_2 := blk_frozen BK131.out 2) | (go_at_call 84; (with_reducible refine (spec_l01Power.calls kj3 a0 a2_2 t134 _ A39.out).mono ?_); rintro e w' ⟨rfl, ⟨nd, rfl⟩⟩; (try first | exact ⟨rfl, _, World.drewN_drewN _ _ _⟩ | exact ⟨rfl, _, Eq.trans (World.drewN_drewN _ _ _) (congrArg (World.drewN _) (Nat.add_assoc _ _ _))⟩)) | (go_at_call 84; (with_reducible refine (spec_l01Power.calls kj3 a0 ji40 t135 _ A41.out).mono ?_); rintro e w' ⟨rfl, ⟨nd, rfl⟩⟩; (try first | exact ⟨rfl, _, World.drewN_drewN _ _ _⟩ | exact ⟨rfl, _, Eq.trans (World.drewN_drewN _ _ _) (congrArg (World.drewN _) (Nat.add_assoc _ _ _))⟩)) | (go_at_call 84; (try simp only [i64_w, hji42_]); (with_reducible refine (spec_l01Power.calls kj3 a0 ji42 t136 _ A43.out).mono ?_); rintro e w' ⟨rfl, ⟨nd, rfl⟩⟩; (try first | exact ⟨rfl, _, World.drewN_drewN _ _ _⟩ | exact ⟨rfl, _, Eq.trans (World.drewN_drewN _ _ _) (congrArg (World.drewN _) (Nat.add_assoc _ _ _))⟩)) | ((with_reducible refine gate_dst (N := 13) rfl ?_); refine box_event ?hg (N := 13) ?hd (cs := #[.int .i64 0, .int .i64 0, .int .i64 0, .int .i64 0]) (t := 98) ?hr ?_; (case hd => rfl); (case hg => rfl); (case hr => first | (go_simp; done) | (go_simp; rfl)); intro gb137 hg w49 hbox hb; have n0_ := Aside0.mk (blk_below (g := gb130) (o := .cells #[.int .i64 a1_0, .int .i64 a1_1, .int .i64 a1_2] 29 (0, 0)) (by (with_reducible repeat first | apply blk_drewN | apply blk_drew | apply blk_alloc); exact BK130.out) hb); have n1_ := Aside0.mk (blk_below (g := gb131) (o := .cells #[.int .i64 a2_0, .int .i64 a2_1, .int .i64 a2_2] 29 (0, 0)) (by (with_reducible repeat first | apply blk_drewN | apply blk_drew | apply blk_alloc); exact BK131.out) hb); have n2_ := Aside0.mk (blk_below (g := gb132) (o := .cells #[.int .i64 0, .int .i64 0, .int .i64 0, .int .i64 0] 26 (0, 0)) (by (with_reducible repeat first | apply blk_drewN | apply blk_drew | apply blk_alloc); exact BK132.out) hb); have n3_ := Aside0.mk (below_step (by repeat (first | (with_reducible first | exact HB.out | apply below_alloc | apply pw_below_drewN | apply below_drew1 | refine below_set ?_ GE130.out | refine below_set ?_ GE131.out | refine below_set ?_ GE132.out) | exact HB.out)) hb); have n4_ := Aside0.mk (hbox); have n5_ := Aside0.mk ((by rw [hg]; exact (below_size (by repeat (first | (with_reducible first | exact HB.out | apply below_alloc | apply pw_below_drewN | apply below_drew1 | refine below_set ?_ GE130.out | refine below_set ?_ GE131.out | refine below_set ?_ GE132.out) | exact HB.out))) : w.heap.size ≤ gb137)); have n6_ := Aside0.mk ((by rw [hg]; exact (below_size (by repeat (first | (with_reducible first | exact HB.out | apply below_alloc | apply pw_below_drewN | apply below_drew1 | refine below_set ?_ GE130.out | refine below_set ?_ GE131.out | refine below_set ?_ GE132.out) | exact HB.out))) : w.heap.size ≤ gb137)); have n7_ := Aside0.mk ((by rw [hg]; exact Nat.ne_of_lt (blk_lt (g := gb130) (o := .cells #[.int .i64 a1_0, .int .i64 a1_1, .int .i64 a1_2] 29 (0, 0)) (by (with_reducible repeat first | apply blk_drewN | apply blk_drew | apply blk_alloc); exact BK130.out)) : gb130 ≠ gb137)); have n8_ := Aside0.mk ((by rw [hg]; exact Nat.ne_of_gt (blk_lt (g := gb130) (o := .cells #[.int .i64 a1_0, .int .i64 a1_1, .int .i64 a1_2] 29 (0, 0)) (by (with_reducible repeat first | apply blk_drewN | apply blk_drew | apply blk_alloc); exact BK130.out)) : gb137 ≠ gb130)); have n9_ := Aside0.mk ((by rw [hg]; exact Nat.ne_of_lt (blk_lt (g := gb131) (o := .cells #[.int .i64 a2_0, .int .i64 a2_1, .int .i64 a2_2] 29 (0, 0)) (by (with_reducible repeat first | apply blk_drewN | apply blk_drew | apply blk_alloc); exact BK131.out)) : gb131 ≠ gb137)); have n10_ := Aside0.mk ((by rw [hg]; exact Nat.ne_of_gt (blk_lt (g := gb131) (o := .cells #[.int .i64 a2_0, .int .i64 a2_1, .int .i64 a2_2] 29 (0, 0)) (by (with_reducible repeat first | apply blk_drewN | apply blk_drew | apply blk_alloc); exact BK131.out)) : gb137 ≠ gb131)); have n11_ := Aside0.mk ((by rw [hg]; exact Nat.ne_of_lt (blk_lt (g := gb132) (o := .cells #[.int .i64 0, .int .i64 0, .int .i64 0, .int .i64 0] 26 (0, 0)) (by (with_reducible repeat first | apply blk_drewN | apply blk_drew | apply blk_alloc); exact BK132.out)) : gb132 ≠ gb137)); have n12_ := Aside0.mk ((by rw [hg]; exact Nat.ne_of_gt (blk_lt (g := gb132) (o := .cells #[.int .i64 0, .int .i64 0, .int .i64 0, .int .i64 0] 26 (0, 0)) (by (with_reducible repeat first | apply blk_drewN | apply blk_drew | apply blk_alloc); exact BK132.out)) : gb137 ≠ gb132)); clear BK130; clear BK131; clear BK132; clear HB; have BK130 := n0_; have BK131 := n1_; have BK132 := n2_; have HB := n3_; have BK137 := n4_; have GW137 := n5_; have GE137 := n6_; have NB130_137 := n7_; have NB137_130 := n8_; have NB131_137 := n9_; have NB137_131 := n10_; have NB132_137 := n11_; have NB137_132 := n12_; clear n0_ n1_ n2_ n3_ n4_ n5_ n6_ n7_ n8_ n9_ n10_ n11_ n12_; clear hb hbox hg; have hnb50 := NB137_130.out; have hnc50 := NB130_137.out; have hnb51 := NB137_131.out; have hnc51 := NB131_137.out; have hnb52 := NB137_132.out; have hnc52 := NB132_137.out; have hcz53_0 : w49.cell? ⟨gb137, 0, none⟩ = some (.int .i64 0) := (blk_cell BK137.out 0).trans rfl; have hcz53_1 : w49.cell? ⟨gb137, 1, none⟩ = some (.int .i64 0) := (blk_cell BK137.out 1).trans rfl; have hcz53_2 : w49.cell? ⟨gb137, 2, none⟩ = some (.int .i64 0) := (blk_cell BK137.out 2).trans rfl; have hcz53_3 : w49.cell? ⟨gb137, 3, none⟩ = some (.int .i64 0) := (blk_cell BK137.out 3).trans rfl; have hfz53_0 := blk_frozen BK137.out 0; have hfz53_1 := blk_frozen BK137.out 1; have hfz53_2 := blk_frozen BK137.out 2; have hfz53_3 := blk_frozen BK137.out 3)); try go_wp2_with (first | (go_at_call 84; (with_reducible refine (spec_l01Power.calls kj3 a0 a1_2 t133 _ A38.out).mono ?_); rintro e w' ⟨rfl, ⟨nd, rfl⟩⟩; (try first | exact ⟨rfl, _, World.drewN_drewN _ _ _⟩ | exact ⟨rfl, _, Eq.trans (World.drewN_drewN _ _ _) (congrArg (World.drewN _) (Nat.add_assoc _ _ _))⟩); have hnb47 := NB131_132.out; have hnc47 := NB132_131.out; have hcz48_0 : wc.cell? ⟨gb131, 0, none⟩ = some (.int .i64 a2_0) := (blk_cell BK131.out 0).trans rfl; have hcz48_1 : wc.cell? ⟨gb131, 1, none⟩ = some (.int .i64 a2_1) := (blk_cell BK131.out 1).trans rfl; have hcz48_2 : wc.cell? ⟨gb131, 2, none⟩ = some (.int .i64 a2_2) := (blk_cell BK131.out 2).trans rfl; have hfz48_0 := blk_frozen BK131.out 0; have hfz48_1 := blk_frozen BK131.out 1; have hfz48_2 := blk_frozen BK131.out 2) | (go_at_call 84; (with_reducible refine (spec_l01Power.calls kj3 a0 a2_2 t134 _ A39.out).mono ?_); rintro e w' ⟨rfl, ⟨nd, rfl⟩⟩; (try first | exact ⟨rfl, _, World.drewN_drewN _ _ _⟩ | exact ⟨rfl, _, Eq.trans (World.drewN_drewN _ _ _) (congrArg (World.drewN _) (Nat.add_assoc _ _ _))⟩)) | (go_at_call 84; (with_reducible refine (spec_l01Power.calls kj3 a0 ji40 t135 _ A41.out).mono ?_); rintro e w' ⟨rfl, ⟨nd, rfl⟩⟩; (try first | exact ⟨rfl, _, World.drewN_drewN _ _ _⟩ | exact ⟨rfl, _, Eq.trans (World.drewN_drewN _ _ _) (congrArg (World.drewN _) (Nat.add_assoc _ _ _))⟩)) | (go_at_call 84; (try simp only [i64_w, hji42_]); (with_reducible refine (spec_l01Power.calls kj3 a0 ji42 t136 _ A43.out).mono ?_); rintro e w' ⟨rfl, ⟨nd, rfl⟩⟩; (try first | exact ⟨rfl, _, World.drewN_drewN _ _ _⟩ | exact ⟨rfl, _, Eq.trans (World.drewN_drewN _ _ _) (congrArg (World.drewN _) (Nat.add_assoc _ _ _))⟩)) | ((with_reducible refine gate_dst (N := 13) rfl ?_); refine box_event ?hg (N := 13) ?hd (cs := #[.int .i64 0, .int .i64 0, .int .i64 0, .int .i64 0]) (t := 98) ?hr ?_; (case hd => rfl); (case hg => rfl); (case hr => first | (go_simp; done) | (go_simp; rfl)); intro gb137 hg w49 hbox hb; have n0_ := Aside0.mk (blk_below (g := gb130) (o := .cells #[.int .i64 a1_0, .int .i64 a1_1, .int .i64 a1_2] 29 (0, 0)) (by (with_reducible repeat first | apply blk_drewN | apply blk_drew | apply blk_alloc); exact BK130.out) hb); have n1_ := Aside0.mk (blk_below (g := gb131) (o := .cells #[.int .i64 a2_0, .int .i64 a2_1, .int .i64 a2_2] 29 (0, 0)) (by (with_reducible repeat first | apply blk_drewN | apply blk_drew | apply blk_alloc); exact BK131.out) hb); have n2_ := Aside0.mk (blk_below (g := gb132) (o := .cells #[.int .i64 0, .int .i64 0, .int .i64 0, .int .i64 0] 26 (0, 0)) (by (with_reducible repeat first | apply blk_drewN | apply blk_drew | apply blk_alloc); exact BK132.out) hb); have n3_ := Aside0.mk (below_step (by repeat (first | (with_reducible first | exact HB.out | apply below_alloc | apply pw_below_drewN | apply below_drew1 | refine below_set ?_ GE130.out | refine below_set ?_ GE131.out | refine below_set ?_ GE132.out) | exact HB.out)) hb); have n4_ := Aside0.mk (hbox); have n5_ := Aside0.mk ((by rw [hg]; exact (below_size (by repeat (first | (with_reducible first | exact HB.out | apply below_alloc | apply pw_below_drewN | apply below_drew1 | refine below_set ?_ GE130.out | refine below_set ?_ GE131.out | refine below_set ?_ GE132.out) | exact HB.out))) : w.heap.size ≤ gb137)); have n6_ := Aside0.mk ((by rw [hg]; exact (below_size (by repeat (first | (with_reducible first | exact HB.out | apply below_alloc | apply pw_below_drewN | apply below_drew1 | refine below_set ?_ GE130.out | refine below_set ?_ GE131.out | refine below_set ?_ GE132.out) | exact HB.out))) : w.heap.size ≤ gb137)); have n7_ := Aside0.mk ((by rw [hg]; exact Nat.ne_of_lt (blk_lt (g := gb130) (o := .cells #[.int .i64 a1_0, .int .i64 a1_1, .int .i64 a1_2] 29 (0, 0)) (by (with_reducible repeat first | apply blk_drewN | apply blk_drew | apply blk_alloc); exact BK130.out)) : gb130 ≠ gb137)); have n8_ := Aside0.mk ((by rw [hg]; exact Nat.ne_of_gt (blk_lt (g := gb130) (o := .cells #[.int .i64 a1_0, .int .i64 a1_1, .int .i64 a1_2] 29 (0, 0)) (by (with_reducible repeat first | apply blk_drewN | apply blk_drew | apply blk_alloc); exact BK130.out)) : gb137 ≠ gb130)); have n9_ := Aside0.mk ((by rw [hg]; exact Nat.ne_of_lt (blk_lt (g := gb131) (o := .cells #[.int .i64 a2_0, .int .i64 a2_1, .int .i64 a2_2] 29 (0, 0)) (by (with_reducible repeat first | apply blk_drewN | apply blk_drew | apply blk_alloc); exact BK131.out)) : gb131 ≠ gb137)); have n10_ := Aside0.mk ((by rw [hg]; exact Nat.ne_of_gt (blk_lt (g := gb131) (o := .cells #[.int .i64 a2_0, .int .i64 a2_1, .int .i64 a2_2] 29 (0, 0)) (by (with_reducible repeat first | apply blk_drewN | apply blk_drew | apply blk_alloc); exact BK131.out)) : gb137 ≠ gb131)); have n11_ := Aside0.mk ((by rw [hg]; exact Nat.ne_of_lt (blk_lt (g := gb132) (o := .cells #[.int .i64 0, .int .i64 0, .int .i64 0, .int .i64 0] 26 (0, 0)) (by (with_reducible repeat first | apply blk_drewN | apply blk_drew | apply blk_alloc); exact BK132.out)) : gb132 ≠ gb137)); have n12_ := Aside0.mk ((by rw [hg]; exact Nat.ne_of_gt (blk_lt (g := gb132) (o := .cells #[.int .i64 0, .int .i64 0, .int .i64 0, .int .i64 0] 26 (0, 0)) (by (with_reducible repeat first | apply blk_drewN | apply blk_drew | apply blk_alloc); exact BK132.out)) : gb137 ≠ gb132)); clear BK130; clear BK131; clear BK132; clear HB; have BK130 := n0_; have BK131 := n1_; have BK132 := n2_; have HB := n3_; have BK137 := n4_; have GW137 := n5_; have GE137 := n6_; have NB130_137 := n7_; have NB137_130 := n8_; have NB131_137 := n9_; have NB137_131 := n10_; have NB132_137 := n11_; have NB137_132 := n12_; clear n0_ n1_ n2_ n3_ n4_ n5_ n6_ n7_ n8_ n9_ n10_ n11_ n12_; clear hb hbox hg; have hnb50 := NB137_130.out; have hnc50 := NB130_137.out; have hnb51 := NB137_131.out; have hnc51 := NB131_137.out; have hnb52 := NB137_132.out; have hnc52 := NB132_137.out; have hcz53_0 : w49.cell? ⟨gb137, 0, none⟩ = some (.int .i64 0) := (blk_cell BK137.out 0).trans rfl; have hcz53_1 : w49.cell? ⟨gb137, 1, none⟩ = some (.int .i64 0) := (blk_cell BK137.out 1).trans rfl; have hcz53_2 : w49.cell? ⟨gb137, 2, none⟩ = some (.int .i64 0) := (blk_cell BK137.out 2).trans rfl; have hcz53_3 : w49.cell? ⟨gb137, 3, none⟩ = some (.int .i64 0) := (blk_cell BK137.out 3).trans rfl; have hfz53_0 := blk_frozen BK137.out 0; have hfz53_1 := blk_frozen BK137.out 1; have hfz53_2 := blk_frozen BK137.out 2; have hfz53_3 := blk_frozen BK137.out 3)))
    go_loopg [14, 15] kj3 (fun kq v14 v15 w' => ∃ (x14_2 : Int) (x15_2 : Int), v14 = .int .i64 x14_2 ∧ v15 = .int .i64 x15_2 ∧ Aside0 (spec_l09Paired.l0 kq x14_2 x15_2 (wrap64 ((wrap64 (a2_1 * t133)) * t136)) (wrap64 ((wrap64 ((wrap64 (t135 * t133)) * t134)) - (wrap64 ((wrap64 (a1_1 * a2_1)) * t136)))) (wrap64 ((wrap64 (t133 * t134)) * t136)) (wrap64 ((wrap64 ((wrap64 (-a1_1)) * t134)) * t136)) = some (r1, r2, r3, r4, r5)) ∧ Aside0 (kq ≤ kj3) ∧ Aside0 (w'.heap[gb130]? = some (.cells #[.int .i64 a1_0, .int .i64 a1_1, .int .i64 a1_2] 29 (0, 0))) ∧ Aside0 (w'.heap[gb131]? = some (.cells #[.int .i64 a2_0, .int .i64 a2_1, .int .i64 a2_2] 29 (0, 0))) ∧ Aside0 (w'.heap[gb132]? = some (.cells #[.int .i64 0, .int .i64 0, .int .i64 0, .int .i64 0] 26 (0, 0))) ∧ Aside0 (w'.heap[gb137]? = some (.cells #[.int .i64 (wrap64 ((wrap64 (a2_1 * t133)) * t136)), .int .i64 (wrap64 ((wrap64 ((wrap64 (t135 * t133)) * t134)) - (wrap64 ((wrap64 (a1_1 * a2_1)) * t136)))), .int .i64 (wrap64 ((wrap64 (t133 * t134)) * t136)), .int .i64 (wrap64 ((wrap64 ((wrap64 (-a1_1)) * t134)) * t136))] 98 (0, 0))) ∧ Aside0 (Below w.heap.size w w'))
    case atStart => exact ⟨(0), (0), (by first | rfl | (simp; done) | (simp [*]; done) | (simp [wrap64]; done)), (by first | rfl | (simp; done) | (simp [*]; done) | (simp [wrap64]; done)), H', ⟨Nat.le_refl _⟩, ⟨by (with_reducible repeat first | apply blk_drewN | apply blk_drew | apply blk_alloc); refine blk_far ?_ NB130_137.out _; (with_reducible repeat first | apply blk_drewN | apply blk_drew | apply blk_alloc); refine blk_far ?_ NB130_137.out _; (with_reducible repeat first | apply blk_drewN | apply blk_drew | apply blk_alloc); refine blk_far ?_ NB130_137.out _; (with_reducible repeat first | apply blk_drewN | apply blk_drew | apply blk_alloc); refine blk_far ?_ NB130_137.out _; (with_reducible repeat first | apply blk_drewN | apply blk_drew | apply blk_alloc); exact BK130.out⟩, ⟨by (with_reducible repeat first | apply blk_drewN | apply blk_drew | apply blk_alloc); refine blk_far ?_ NB131_137.out _; (with_reducible repeat first | apply blk_drewN | apply blk_drew | apply blk_alloc); refine blk_far ?_ NB131_137.out _; (with_reducible repeat first | apply blk_drewN | apply blk_drew | apply blk_alloc); refine blk_far ?_ NB131_137.out _; (with_reducible repeat first | apply blk_drewN | apply blk_drew | apply blk_alloc); refine blk_far ?_ NB131_137.out _; (with_reducible repeat first | apply blk_drewN | apply blk_drew | apply blk_alloc); exact BK131.out⟩, ⟨by (with_reducible repeat first | apply blk_drewN | apply blk_drew | apply blk_alloc); refine blk_far ?_ NB132_137.out _; (with_reducible repeat first | apply blk_drewN | apply blk_drew | apply blk_alloc); refine blk_far ?_ NB132_137.out _; (with_reducible repeat first | apply blk_drewN | apply blk_drew | apply blk_alloc); refine blk_far ?_ NB132_137.out _; (with_reducible repeat first | apply blk_drewN | apply blk_drew | apply blk_alloc); refine blk_far ?_ NB132_137.out _; (with_reducible repeat first | apply blk_drewN | apply blk_drew | apply blk_alloc); exact BK132.out⟩, ⟨by (with_reducible repeat first | apply blk_drewN | apply blk_drew | apply blk_alloc); refine blk_put (cs := #[.int .i64 (wrap64 ((wrap64 (a2_1 * t133)) * t136)), .int .i64 (wrap64 ((wrap64 ((wrap64 (t135 * t133)) * t134)) - (wrap64 ((wrap64 (a1_1 * a2_1)) * t136)))), .int .i64 (wrap64 ((wrap64 (t133 * t134)) * t136)), .int .i64 0]) ?_ 3 _ rfl; (with_reducible repeat first | apply blk_drewN | apply blk_drew | apply blk_alloc); refine blk_put (cs := #[.int .i64 (wrap64 ((wrap64 (a2_1 * t133)) * t136)), .int .i64 (wrap64 ((wrap64 ((wrap64 (t135 * t133)) * t134)) - (wrap64 ((wrap64 (a1_1 * a2_1)) * t136)))), .int .i64 0, .int .i64 0]) ?_ 2 _ rfl; (with_reducible repeat first | apply blk_drewN | apply blk_drew | apply blk_alloc); refine blk_put (cs := #[.int .i64 (wrap64 ((wrap64 (a2_1 * t133)) * t136)), .int .i64 0, .int .i64 0, .int .i64 0]) ?_ 1 _ rfl; (with_reducible repeat first | apply blk_drewN | apply blk_drew | apply blk_alloc); refine blk_put (cs := #[.int .i64 0, .int .i64 0, .int .i64 0, .int .i64 0]) ?_ 0 _ rfl; (with_reducible repeat first | apply blk_drewN | apply blk_drew | apply blk_alloc); exact BK137.out⟩, ⟨by repeat (first | (with_reducible first | exact HB.out | apply below_alloc | apply pw_below_drewN | apply below_drew1 | refine below_set ?_ GE130.out | refine below_set ?_ GE131.out | refine below_set ?_ GE132.out | refine below_set ?_ GE137.out) | exact HB.out)⟩⟩
    case round =>
     clear H'
     try clear c1
     try clear c2
     try clear p2
     try clear c3
     try clear c4
     try clear c5
     try clear p6
     try clear c8
     try clear c9
     try clear c11
     try clear c13
     try clear c13b0
     try clear c14
     try clear c15
     try clear c17
     try clear c17b0
     try clear c18
     try clear c19
     try clear c21
     try clear c23
     try clear c23b0
     try clear c23b1
     try clear c24
     try clear c25
     try clear c27
     try clear c29
     try clear c30
     try clear c32
     try clear c34
     try clear c35
     try clear c36
     try clear c44
     try clear c45
     try clear c47
     try clear c50
     try clear c51
     try clear c52
     try clear hcz10_0
     try clear hcz10_1
     try clear hcz10_2
     try clear hcz12_0
     try clear hcz12_1
     try clear hcz12_2
     try clear hcz16_0
     try clear hcz16_1
     try clear hcz16_2
     try clear hcz20_0
     try clear hcz20_1
     try clear hcz20_2
     try clear hcz22_0
     try clear hcz22_1
     try clear hcz22_2
     try clear hcz26_0
     try clear hcz26_1
     try clear hcz26_2
     try clear hcz28_0
     try clear hcz28_1
     try clear hcz28_2
     try clear hcz31_0
     try clear hcz31_1
     try clear hcz31_2
     try clear hcz33_0
     try clear hcz33_1
     try clear hcz33_2
     try clear hcz37_0
     try clear hcz37_1
     try clear hcz37_2
     try clear hcz37_3
     try clear hcz46_0
     try clear hcz46_1
     try clear hcz46_2
     try clear hcz48_0
     try clear hcz48_1
     try clear hcz48_2
     try clear hcz53_0
     try clear hcz53_1
     try clear hcz53_2
     try clear hcz53_3
     try clear hfz10_0
     try clear hfz10_1
     try clear hfz10_2
     try clear hfz12_0
     try clear hfz12_1
     try clear hfz12_2
     try clear hfz16_0
     try clear hfz16_1
     try clear hfz16_2
     try clear hfz20_0
     try clear hfz20_1
     try clear hfz20_2
     try clear hfz22_0
     try clear hfz22_1
     try clear hfz22_2
     try clear hfz26_0
     try clear hfz26_1
     try clear hfz26_2
     try clear hfz28_0
     try clear hfz28_1
     try clear hfz28_2
     try clear hfz31_0
     try clear hfz31_1
     try clear hfz31_2
     try clear hfz33_0
     try clear hfz33_1
     try clear hfz33_2
     try clear hfz37_0
     try clear hfz37_1
     try clear hfz37_2
     try clear hfz37_3
     try clear hfz46_0
     try clear hfz46_1
     try clear hfz46_2
     try clear hfz48_0
     try clear hfz48_1
     try clear hfz48_2
     try clear hfz53_0
     try clear hfz53_1
     try clear hfz53_2
     try clear hfz53_3
     try clear p2
     try clear p6
     obtain ⟨x14_2, x15_2, rfl, rfl, HA, HK2, BK130, BK131, BK132, BK137, HB⟩ := hrel
     cases gk with
     | zero => exact absurd HA.out (by simp [spec_l09Paired.l0])
     | succ k2 =>
      have H := HA.out
      clear HA
      simp only [spec_l09Paired.l0] at H
      by_cases c54 : x15_2 < 4
      ·rw [if_pos c54] at H
       have c54b0 : decide (x15_2 < 4) = true := decide_eq_true c54
       clear c54
       by_cases c55 : x15_2 = 0
       ·subst c55
        have H1 : (if (wrap64 ((wrap64 (a2_1 * t133)) * t136)) = 0 then (if x14_2 = 0 then (spec_l09Paired.l0 k2 x14_2 (wrap64 (0 + 1)) (wrap64 ((wrap64 (a2_1 * t133)) * t136)) (wrap64 ((wrap64 ((wrap64 (t135 * t133)) * t134)) - (wrap64 ((wrap64 (a1_1 * a2_1)) * t136)))) (wrap64 ((wrap64 (t133 * t134)) * t136)) (wrap64 ((wrap64 ((wrap64 (-a1_1)) * t134)) * t136))) else ((spec_l01Gcd.f k2 (wrap64 ((wrap64 (a2_1 * t133)) * t136)) x14_2).bind fun t138 => (spec_l09Paired.l0 k2 t138 (wrap64 (0 + 1)) (wrap64 ((wrap64 (a2_1 * t133)) * t136)) (wrap64 ((wrap64 ((wrap64 (t135 * t133)) * t134)) - (wrap64 ((wrap64 (a1_1 * a2_1)) * t136)))) (wrap64 ((wrap64 (t133 * t134)) * t136)) (wrap64 ((wrap64 ((wrap64 (-a1_1)) * t134)) * t136))))) else ((spec_l01Gcd.f k2 (wrap64 ((wrap64 (a2_1 * t133)) * t136)) x14_2).bind fun t139 => (spec_l09Paired.l0 k2 t139 (wrap64 (0 + 1)) (wrap64 ((wrap64 (a2_1 * t133)) * t136)) (wrap64 ((wrap64 ((wrap64 (t135 * t133)) * t134)) - (wrap64 ((wrap64 (a1_1 * a2_1)) * t136)))) (wrap64 ((wrap64 (t133 * t134)) * t136)) (wrap64 ((wrap64 ((wrap64 (-a1_1)) * t134)) * t136))))) = some (r1, r2, r3, r4, r5) := by rw [if_pos rfl] at H; exact H
        clear H
        have H := H1
        clear H1
        by_cases c56 : (wrap64 ((wrap64 (a2_1 * t133)) * t136)) = 0
        ·rw [if_pos c56] at H
         have c56b0 : ((wrap64 ((wrap64 (a2_1 * t133)) * t136)) == 0) = true := beq_iff_eq.mpr c56
         have c56b1 : ((wrap64 ((wrap64 (a2_1 * t133)) * t136)) != 0) = false := bne_eq_false_iff_eq.mpr c56
         clear c56
         by_cases c57 : x14_2 = 0
         ·rw [if_pos c57] at H
          have c57b0 : (x14_2 == 0) = true := beq_iff_eq.mpr c57
          have c57b1 : (x14_2 != 0) = false := bne_eq_false_iff_eq.mpr c57
          clear c57
          have H' := Aside0.mk H
          clear H
          have hnb58 := NB137_130.out
          have hnc58 := NB130_137.out
          have hnb59 := NB137_131.out
          have hnc59 := NB131_137.out
          have hnb60 := NB137_132.out
          have hnc60 := NB132_137.out
          have hcz61_0 : wr.cell? ⟨gb137, 0, none⟩ = some (.int .i64 (wrap64 ((wrap64 (a2_1 * t133)) * t136))) := (blk_cell BK137.out 0).trans rfl
          have hcz61_1 : wr.cell? ⟨gb137, 1, none⟩ = some (.int .i64 (wrap64 ((wrap64 ((wrap64 (t135 * t133)) * t134)) - (wrap64 ((wrap64 (a1_1 * a2_1)) * t136))))) := (blk_cell BK137.out 1).trans rfl
          have hcz61_2 : wr.cell? ⟨gb137, 2, none⟩ = some (.int .i64 (wrap64 ((wrap64 (t133 * t134)) * t136))) := (blk_cell BK137.out 2).trans rfl
          have hcz61_3 : wr.cell? ⟨gb137, 3, none⟩ = some (.int .i64 (wrap64 ((wrap64 ((wrap64 (-a1_1)) * t134)) * t136))) := (blk_cell BK137.out 3).trans rfl
          have hfz61_0 := blk_frozen BK137.out 0
          have hfz61_1 := blk_frozen BK137.out 1
          have hfz61_2 := blk_frozen BK137.out 2
          have hfz61_3 := blk_frozen BK137.out 3
          go_wp2
          repeat (go_quiet (fail); try go_wp2)
          go_roundg k2
          case measure => have := HJ3.out; have := HK2.out; omega
          case rel => exact ⟨(x14_2), (wrap64 (0 + 1)), (by first | rfl | (simp; done) | (simp [*]; done) | (simp [wrap64]; done)), (by first | rfl | (simp; done) | (simp [*]; done) | (simp [wrap64]; done)), H', ⟨by have := HJ3.out; have := HK2.out; omega⟩, ⟨by (with_reducible repeat first | apply blk_drewN | apply blk_drew | apply blk_alloc); exact BK130.out⟩, ⟨by (with_reducible repeat first | apply blk_drewN | apply blk_drew | apply blk_alloc); exact BK131.out⟩, ⟨by (with_reducible repeat first | apply blk_drewN | apply blk_drew | apply blk_alloc); exact BK132.out⟩, ⟨by (with_reducible repeat first | apply blk_drewN | apply blk_drew | apply blk_alloc); exact BK137.out⟩, ⟨by repeat (first | (with_reducible first | exact HB.out | apply below_alloc | apply pw_below_drewN | apply below_drew1 | refine below_set ?_ GE130.out | refine below_set ?_ GE131.out | refine below_set ?_ GE132.out | refine below_set ?_ GE137.out) | exact HB.out)⟩⟩
         ·rw [if_neg c57] at H
          have c57b0 : (x14_2 == 0) = false := beq_eq_false_iff_ne.mpr c57
          have c57b1 : (x14_2 != 0) = true := bne_iff_ne.mpr c57
          replace H := Option.bind_eq_some_iff.mp H
          obtain ⟨t138, A620, H⟩ := H
          replace H : (spec_l09Paired.l0 k2 t138 (wrap64 (0 + 1)) (wrap64 ((wrap64 (a2_1 * t133)) * t136)) (wrap64 ((wrap64 ((wrap64 (t135 * t133)) * t134)) - (wrap64 ((wrap64 (a1_1 * a2_1)) * t136)))) (wrap64 ((wrap64 (t133 * t134)) * t136)) (wrap64 ((wrap64 ((wrap64 (-a1_1)) * t134)) * t136))) = some (r1, r2, r3, r4, r5) := H
          have A62 := Aside0.mk A620
          clear A620
          have H' := Aside0.mk H
          clear H
          have hnb63 := NB137_130.out
          have hnc63 := NB130_137.out
          have hnb64 := NB137_131.out
          have hnc64 := NB131_137.out
          have hnb65 := NB137_132.out
          have hnc65 := NB132_137.out
          have hcz66_0 : wr.cell? ⟨gb137, 0, none⟩ = some (.int .i64 (wrap64 ((wrap64 (a2_1 * t133)) * t136))) := (blk_cell BK137.out 0).trans rfl
          have hcz66_1 : wr.cell? ⟨gb137, 1, none⟩ = some (.int .i64 (wrap64 ((wrap64 ((wrap64 (t135 * t133)) * t134)) - (wrap64 ((wrap64 (a1_1 * a2_1)) * t136))))) := (blk_cell BK137.out 1).trans rfl
          have hcz66_2 : wr.cell? ⟨gb137, 2, none⟩ = some (.int .i64 (wrap64 ((wrap64 (t133 * t134)) * t136))) := (blk_cell BK137.out 2).trans rfl
          have hcz66_3 : wr.cell? ⟨gb137, 3, none⟩ = some (.int .i64 (wrap64 ((wrap64 ((wrap64 (-a1_1)) * t134)) * t136))) := (blk_cell BK137.out 3).trans rfl
          have hfz66_0 := blk_frozen BK137.out 0
          have hfz66_1 := blk_frozen BK137.out 1
          have hfz66_2 := blk_frozen BK137.out 2
          have hfz66_3 := blk_frozen BK137.out 3
          go_wp2_with (first | (go_at_call 85; (with_reducible refine (spec_l01Gcd.calls k2 (wrap64 ((wrap64 (a2_1 * t133)) * t136)) x14_2 t138 _ A62.out).mono ?_); rintro e w67 ⟨rfl, hb⟩; have n0_ := Aside0.mk (blk_below (g := gb130) (o := .cells #[.int .i64 a1_0, .int .i64 a1_1, .int .i64 a1_2] 29 (0, 0)) (by (with_reducible repeat first | apply blk_drewN | apply blk_drew | apply blk_alloc); exact BK130.out) hb); have n1_ := Aside0.mk (blk_below (g := gb131) (o := .cells #[.int .i64 a2_0, .int .i64 a2_1, .int .i64 a2_2] 29 (0, 0)) (by (with_reducible repeat first | apply blk_drewN | apply blk_drew | apply blk_alloc); exact BK131.out) hb); have n2_ := Aside0.mk (blk_below (g := gb132) (o := .cells #[.int .i64 0, .int .i64 0, .int .i64 0, .int .i64 0] 26 (0, 0)) (by (with_reducible repeat first | apply blk_drewN | apply blk_drew | apply blk_alloc); exact BK132.out) hb); have n3_ := Aside0.mk (blk_below (g := gb137) (o := .cells #[.int .i64 (wrap64 ((wrap64 (a2_1 * t133)) * t136)), .int .i64 (wrap64 ((wrap64 ((wrap64 (t135 * t133)) * t134)) - (wrap64 ((wrap64 (a1_1 * a2_1)) * t136)))), .int .i64 (wrap64 ((wrap64 (t133 * t134)) * t136)), .int .i64 (wrap64 ((wrap64 ((wrap64 (-a1_1)) * t134)) * t136))] 98 (0, 0)) (by (with_reducible repeat first | apply blk_drewN | apply blk_drew | apply blk_alloc); exact BK137.out) hb); have n4_ := Aside0.mk (below_step (by repeat (first | (with_reducible first | exact HB.out | apply below_alloc | apply pw_below_drewN | apply below_drew1 | refine below_set ?_ GE130.out | refine below_set ?_ GE131.out | refine below_set ?_ GE132.out | refine below_set ?_ GE137.out) | exact HB.out)) hb); clear BK130; clear BK131; clear BK132; clear BK137; clear HB; have BK130 := n0_; have BK131 := n1_; have BK132 := n2_; have BK137 := n3_; have HB := n4_; clear n0_ n1_ n2_ n3_ n4_; (try clear hb); (try clear hb2); (try clear hk); (try clear hi)))
          repeat (go_quiet (first | (go_at_call 85; (with_reducible refine (spec_l01Gcd.calls k2 (wrap64 ((wrap64 (a2_1 * t133)) * t136)) x14_2 t138 _ A62.out).mono ?_); rintro e w67 ⟨rfl, hb⟩; have n0_ := Aside0.mk (blk_below (g := gb130) (o := .cells #[.int .i64 a1_0, .int .i64 a1_1, .int .i64 a1_2] 29 (0, 0)) (by (with_reducible repeat first | apply blk_drewN | apply blk_drew | apply blk_alloc); exact BK130.out) hb); have n1_ := Aside0.mk (blk_below (g := gb131) (o := .cells #[.int .i64 a2_0, .int .i64 a2_1, .int .i64 a2_2] 29 (0, 0)) (by (with_reducible repeat first | apply blk_drewN | apply blk_drew | apply blk_alloc); exact BK131.out) hb); have n2_ := Aside0.mk (blk_below (g := gb132) (o := .cells #[.int .i64 0, .int .i64 0, .int .i64 0, .int .i64 0] 26 (0, 0)) (by (with_reducible repeat first | apply blk_drewN | apply blk_drew | apply blk_alloc); exact BK132.out) hb); have n3_ := Aside0.mk (blk_below (g := gb137) (o := .cells #[.int .i64 (wrap64 ((wrap64 (a2_1 * t133)) * t136)), .int .i64 (wrap64 ((wrap64 ((wrap64 (t135 * t133)) * t134)) - (wrap64 ((wrap64 (a1_1 * a2_1)) * t136)))), .int .i64 (wrap64 ((wrap64 (t133 * t134)) * t136)), .int .i64 (wrap64 ((wrap64 ((wrap64 (-a1_1)) * t134)) * t136))] 98 (0, 0)) (by (with_reducible repeat first | apply blk_drewN | apply blk_drew | apply blk_alloc); exact BK137.out) hb); have n4_ := Aside0.mk (below_step (by repeat (first | (with_reducible first | exact HB.out | apply below_alloc | apply pw_below_drewN | apply below_drew1 | refine below_set ?_ GE130.out | refine below_set ?_ GE131.out | refine below_set ?_ GE132.out | refine below_set ?_ GE137.out) | exact HB.out)) hb); clear BK130; clear BK131; clear BK132; clear BK137; clear HB; have BK130 := n0_; have BK131 := n1_; have BK132 := n2_; have BK137 := n3_; have HB := n4_; clear n0_ n1_ n2_ n3_ n4_; (try clear hb); (try clear hb2); (try clear hk); (try clear hi))); try go_wp2_with (first | (go_at_call 85; (with_reducible refine (spec_l01Gcd.calls k2 (wrap64 ((wrap64 (a2_1 * t133)) * t136)) x14_2 t138 _ A62.out).mono ?_); rintro e w67 ⟨rfl, hb⟩; have n0_ := Aside0.mk (blk_below (g := gb130) (o := .cells #[.int .i64 a1_0, .int .i64 a1_1, .int .i64 a1_2] 29 (0, 0)) (by (with_reducible repeat first | apply blk_drewN | apply blk_drew | apply blk_alloc); exact BK130.out) hb); have n1_ := Aside0.mk (blk_below (g := gb131) (o := .cells #[.int .i64 a2_0, .int .i64 a2_1, .int .i64 a2_2] 29 (0, 0)) (by (with_reducible repeat first | apply blk_drewN | apply blk_drew | apply blk_alloc); exact BK131.out) hb); have n2_ := Aside0.mk (blk_below (g := gb132) (o := .cells #[.int .i64 0, .int .i64 0, .int .i64 0, .int .i64 0] 26 (0, 0)) (by (with_reducible repeat first | apply blk_drewN | apply blk_drew | apply blk_alloc); exact BK132.out) hb); have n3_ := Aside0.mk (blk_below (g := gb137) (o := .cells #[.int .i64 (wrap64 ((wrap64 (a2_1 * t133)) * t136)), .int .i64 (wrap64 ((wrap64 ((wrap64 (t135 * t133)) * t134)) - (wrap64 ((wrap64 (a1_1 * a2_1)) * t136)))), .int .i64 (wrap64 ((wrap64 (t133 * t134)) * t136)), .int .i64 (wrap64 ((wrap64 ((wrap64 (-a1_1)) * t134)) * t136))] 98 (0, 0)) (by (with_reducible repeat first | apply blk_drewN | apply blk_drew | apply blk_alloc); exact BK137.out) hb); have n4_ := Aside0.mk (below_step (by repeat (first | (with_reducible first | exact HB.out | apply below_alloc | apply pw_below_drewN | apply below_drew1 | refine below_set ?_ GE130.out | refine below_set ?_ GE131.out | refine below_set ?_ GE132.out | refine below_set ?_ GE137.out) | exact HB.out)) hb); clear BK130; clear BK131; clear BK132; clear BK137; clear HB; have BK130 := n0_; have BK131 := n1_; have BK132 := n2_; have BK137 := n3_; have HB := n4_; clear n0_ n1_ n2_ n3_ n4_; (try clear hb); (try clear hb2); (try clear hk); (try clear hi))))
          go_roundg k2
          case measure => have := HJ3.out; have := HK2.out; omega
          case rel => exact ⟨(t138), (wrap64 (0 + 1)), (by first | rfl | (simp; done) | (simp [*]; done) | (simp [wrap64]; done)), (by first | rfl | (simp; done) | (simp [*]; done) | (simp [wrap64]; done)), H', ⟨by have := HJ3.out; have := HK2.out; omega⟩, ⟨by (with_reducible repeat first | apply blk_drewN | apply blk_drew | apply blk_alloc); exact BK130.out⟩, ⟨by (with_reducible repeat first | apply blk_drewN | apply blk_drew | apply blk_alloc); exact BK131.out⟩, ⟨by (with_reducible repeat first | apply blk_drewN | apply blk_drew | apply blk_alloc); exact BK132.out⟩, ⟨by (with_reducible repeat first | apply blk_drewN | apply blk_drew | apply blk_alloc); exact BK137.out⟩, ⟨by repeat (first | (with_reducible first | exact HB.out | apply below_alloc | apply pw_below_drewN | apply below_drew1 | refine below_set ?_ GE130.out | refine below_set ?_ GE131.out | refine below_set ?_ GE132.out | refine below_set ?_ GE137.out) | exact HB.out)⟩⟩
        ·rw [if_neg c56] at H
         have c56b0 : ((wrap64 ((wrap64 (a2_1 * t133)) * t136)) == 0) = false := beq_eq_false_iff_ne.mpr c56
         have c56b1 : ((wrap64 ((wrap64 (a2_1 * t133)) * t136)) != 0) = true := bne_iff_ne.mpr c56
         replace H := Option.bind_eq_some_iff.mp H
         obtain ⟨t139, A680, H⟩ := H
         replace H : (spec_l09Paired.l0 k2 t139 (wrap64 (0 + 1)) (wrap64 ((wrap64 (a2_1 * t133)) * t136)) (wrap64 ((wrap64 ((wrap64 (t135 * t133)) * t134)) - (wrap64 ((wrap64 (a1_1 * a2_1)) * t136)))) (wrap64 ((wrap64 (t133 * t134)) * t136)) (wrap64 ((wrap64 ((wrap64 (-a1_1)) * t134)) * t136))) = some (r1, r2, r3, r4, r5) := H
         have A68 := Aside0.mk A680
         clear A680
         have H' := Aside0.mk H
         clear H
         have hnb69 := NB137_130.out
         have hnc69 := NB130_137.out
         have hnb70 := NB137_131.out
         have hnc70 := NB131_137.out
         have hnb71 := NB137_132.out
         have hnc71 := NB132_137.out
         have hcz72_0 : wr.cell? ⟨gb137, 0, none⟩ = some (.int .i64 (wrap64 ((wrap64 (a2_1 * t133)) * t136))) := (blk_cell BK137.out 0).trans rfl
         have hcz72_1 : wr.cell? ⟨gb137, 1, none⟩ = some (.int .i64 (wrap64 ((wrap64 ((wrap64 (t135 * t133)) * t134)) - (wrap64 ((wrap64 (a1_1 * a2_1)) * t136))))) := (blk_cell BK137.out 1).trans rfl
         have hcz72_2 : wr.cell? ⟨gb137, 2, none⟩ = some (.int .i64 (wrap64 ((wrap64 (t133 * t134)) * t136))) := (blk_cell BK137.out 2).trans rfl
         have hcz72_3 : wr.cell? ⟨gb137, 3, none⟩ = some (.int .i64 (wrap64 ((wrap64 ((wrap64 (-a1_1)) * t134)) * t136))) := (blk_cell BK137.out 3).trans rfl
         have hfz72_0 := blk_frozen BK137.out 0
         have hfz72_1 := blk_frozen BK137.out 1
         have hfz72_2 := blk_frozen BK137.out 2
         have hfz72_3 := blk_frozen BK137.out 3
         go_wp2_with (first | (go_at_call 85; (with_reducible refine (spec_l01Gcd.calls k2 (wrap64 ((wrap64 (a2_1 * t133)) * t136)) x14_2 t139 _ A68.out).mono ?_); rintro e w73 ⟨rfl, hb⟩; have n0_ := Aside0.mk (blk_below (g := gb130) (o := .cells #[.int .i64 a1_0, .int .i64 a1_1, .int .i64 a1_2] 29 (0, 0)) (by (with_reducible repeat first | apply blk_drewN | apply blk_drew | apply blk_alloc); exact BK130.out) hb); have n1_ := Aside0.mk (blk_below (g := gb131) (o := .cells #[.int .i64 a2_0, .int .i64 a2_1, .int .i64 a2_2] 29 (0, 0)) (by (with_reducible repeat first | apply blk_drewN | apply blk_drew | apply blk_alloc); exact BK131.out) hb); have n2_ := Aside0.mk (blk_below (g := gb132) (o := .cells #[.int .i64 0, .int .i64 0, .int .i64 0, .int .i64 0] 26 (0, 0)) (by (with_reducible repeat first | apply blk_drewN | apply blk_drew | apply blk_alloc); exact BK132.out) hb); have n3_ := Aside0.mk (blk_below (g := gb137) (o := .cells #[.int .i64 (wrap64 ((wrap64 (a2_1 * t133)) * t136)), .int .i64 (wrap64 ((wrap64 ((wrap64 (t135 * t133)) * t134)) - (wrap64 ((wrap64 (a1_1 * a2_1)) * t136)))), .int .i64 (wrap64 ((wrap64 (t133 * t134)) * t136)), .int .i64 (wrap64 ((wrap64 ((wrap64 (-a1_1)) * t134)) * t136))] 98 (0, 0)) (by (with_reducible repeat first | apply blk_drewN | apply blk_drew | apply blk_alloc); exact BK137.out) hb); have n4_ := Aside0.mk (below_step (by repeat (first | (with_reducible first | exact HB.out | apply below_alloc | apply pw_below_drewN | apply below_drew1 | refine below_set ?_ GE130.out | refine below_set ?_ GE131.out | refine below_set ?_ GE132.out | refine below_set ?_ GE137.out) | exact HB.out)) hb); clear BK130; clear BK131; clear BK132; clear BK137; clear HB; have BK130 := n0_; have BK131 := n1_; have BK132 := n2_; have BK137 := n3_; have HB := n4_; clear n0_ n1_ n2_ n3_ n4_; (try clear hb); (try clear hb2); (try clear hk); (try clear hi)))
         repeat (go_quiet (first | (go_at_call 85; (with_reducible refine (spec_l01Gcd.calls k2 (wrap64 ((wrap64 (a2_1 * t133)) * t136)) x14_2 t139 _ A68.out).mono ?_); rintro e w73 ⟨rfl, hb⟩; have n0_ := Aside0.mk (blk_below (g := gb130) (o := .cells #[.int .i64 a1_0, .int .i64 a1_1, .int .i64 a1_2] 29 (0, 0)) (by (with_reducible repeat first | apply blk_drewN | apply blk_drew | apply blk_alloc); exact BK130.out) hb); have n1_ := Aside0.mk (blk_below (g := gb131) (o := .cells #[.int .i64 a2_0, .int .i64 a2_1, .int .i64 a2_2] 29 (0, 0)) (by (with_reducible repeat first | apply blk_drewN | apply blk_drew | apply blk_alloc); exact BK131.out) hb); have n2_ := Aside0.mk (blk_below (g := gb132) (o := .cells #[.int .i64 0, .int .i64 0, .int .i64 0, .int .i64 0] 26 (0, 0)) (by (with_reducible repeat first | apply blk_drewN | apply blk_drew | apply blk_alloc); exact BK132.out) hb); have n3_ := Aside0.mk (blk_below (g := gb137) (o := .cells #[.int .i64 (wrap64 ((wrap64 (a2_1 * t133)) * t136)), .int .i64 (wrap64 ((wrap64 ((wrap64 (t135 * t133)) * t134)) - (wrap64 ((wrap64 (a1_1 * a2_1)) * t136)))), .int .i64 (wrap64 ((wrap64 (t133 * t134)) * t136)), .int .i64 (wrap64 ((wrap64 ((wrap64 (-a1_1)) * t134)) * t136))] 98 (0, 0)) (by (with_reducible repeat first | apply blk_drewN | apply blk_drew | apply blk_alloc); exact BK137.out) hb); have n4_ := Aside0.mk (below_step (by repeat (first | (with_reducible first | exact HB.out | apply below_alloc | apply pw_below_drewN | apply below_drew1 | refine below_set ?_ GE130.out | refine below_set ?_ GE131.out | refine below_set ?_ GE132.out | refine below_set ?_ GE137.out) | exact HB.out)) hb); clear BK130; clear BK131; clear BK132; clear BK137; clear HB; have BK130 := n0_; have BK131 := n1_; have BK132 := n2_; have BK137 := n3_; have HB := n4_; clear n0_ n1_ n2_ n3_ n4_; (try clear hb); (try clear hb2); (try clear hk); (try clear hi))); try go_wp2_with (first | (go_at_call 85; (with_reducible refine (spec_l01Gcd.calls k2 (wrap64 ((wrap64 (a2_1 * t133)) * t136)) x14_2 t139 _ A68.out).mono ?_); rintro e w73 ⟨rfl, hb⟩; have n0_ := Aside0.mk (blk_below (g := gb130) (o := .cells #[.int .i64 a1_0, .int .i64 a1_1, .int .i64 a1_2] 29 (0, 0)) (by (with_reducible repeat first | apply blk_drewN | apply blk_drew | apply blk_alloc); exact BK130.out) hb); have n1_ := Aside0.mk (blk_below (g := gb131) (o := .cells #[.int .i64 a2_0, .int .i64 a2_1, .int .i64 a2_2] 29 (0, 0)) (by (with_reducible repeat first | apply blk_drewN | apply blk_drew | apply blk_alloc); exact BK131.out) hb); have n2_ := Aside0.mk (blk_below (g := gb132) (o := .cells #[.int .i64 0, .int .i64 0, .int .i64 0, .int .i64 0] 26 (0, 0)) (by (with_reducible repeat first | apply blk_drewN | apply blk_drew | apply blk_alloc); exact BK132.out) hb); have n3_ := Aside0.mk (blk_below (g := gb137) (o := .cells #[.int .i64 (wrap64 ((wrap64 (a2_1 * t133)) * t136)), .int .i64 (wrap64 ((wrap64 ((wrap64 (t135 * t133)) * t134)) - (wrap64 ((wrap64 (a1_1 * a2_1)) * t136)))), .int .i64 (wrap64 ((wrap64 (t133 * t134)) * t136)), .int .i64 (wrap64 ((wrap64 ((wrap64 (-a1_1)) * t134)) * t136))] 98 (0, 0)) (by (with_reducible repeat first | apply blk_drewN | apply blk_drew | apply blk_alloc); exact BK137.out) hb); have n4_ := Aside0.mk (below_step (by repeat (first | (with_reducible first | exact HB.out | apply below_alloc | apply pw_below_drewN | apply below_drew1 | refine below_set ?_ GE130.out | refine below_set ?_ GE131.out | refine below_set ?_ GE132.out | refine below_set ?_ GE137.out) | exact HB.out)) hb); clear BK130; clear BK131; clear BK132; clear BK137; clear HB; have BK130 := n0_; have BK131 := n1_; have BK132 := n2_; have BK137 := n3_; have HB := n4_; clear n0_ n1_ n2_ n3_ n4_; (try clear hb); (try clear hb2); (try clear hk); (try clear hi))))
         go_roundg k2
         case measure => have := HJ3.out; have := HK2.out; omega
         case rel => exact ⟨(t139), (wrap64 (0 + 1)), (by first | rfl | (simp; done) | (simp [*]; done) | (simp [wrap64]; done)), (by first | rfl | (simp; done) | (simp [*]; done) | (simp [wrap64]; done)), H', ⟨by have := HJ3.out; have := HK2.out; omega⟩, ⟨by (with_reducible repeat first | apply blk_drewN | apply blk_drew | apply blk_alloc); exact BK130.out⟩, ⟨by (with_reducible repeat first | apply blk_drewN | apply blk_drew | apply blk_alloc); exact BK131.out⟩, ⟨by (with_reducible repeat first | apply blk_drewN | apply blk_drew | apply blk_alloc); exact BK132.out⟩, ⟨by (with_reducible repeat first | apply blk_drewN | apply blk_drew | apply blk_alloc); exact BK137.out⟩, ⟨by repeat (first | (with_reducible first | exact HB.out | apply below_alloc | apply pw_below_drewN | apply below_drew1 | refine below_set ?_ GE130.out | refine below_set ?_ GE131.out | refine below_set ?_ GE132.out | refine below_set ?_ GE137.out) | exact HB.out)⟩⟩
       ·rw [if_neg c55] at H
        have c55b0 : (x15_2 == 0) = false := beq_eq_false_iff_ne.mpr c55
        have c55b1 : (x15_2 != 0) = true := bne_iff_ne.mpr c55
        by_cases c74 : x15_2 = 1
        ·subst c74
         have H1 : (if (wrap64 ((wrap64 ((wrap64 (t135 * t133)) * t134)) - (wrap64 ((wrap64 (a1_1 * a2_1)) * t136)))) = 0 then (if x14_2 = 0 then (spec_l09Paired.l0 k2 x14_2 (wrap64 (1 + 1)) (wrap64 ((wrap64 (a2_1 * t133)) * t136)) (wrap64 ((wrap64 ((wrap64 (t135 * t133)) * t134)) - (wrap64 ((wrap64 (a1_1 * a2_1)) * t136)))) (wrap64 ((wrap64 (t133 * t134)) * t136)) (wrap64 ((wrap64 ((wrap64 (-a1_1)) * t134)) * t136))) else ((spec_l01Gcd.f k2 (wrap64 ((wrap64 ((wrap64 (t135 * t133)) * t134)) - (wrap64 ((wrap64 (a1_1 * a2_1)) * t136)))) x14_2).bind fun t140 => (spec_l09Paired.l0 k2 t140 (wrap64 (1 + 1)) (wrap64 ((wrap64 (a2_1 * t133)) * t136)) (wrap64 ((wrap64 ((wrap64 (t135 * t133)) * t134)) - (wrap64 ((wrap64 (a1_1 * a2_1)) * t136)))) (wrap64 ((wrap64 (t133 * t134)) * t136)) (wrap64 ((wrap64 ((wrap64 (-a1_1)) * t134)) * t136))))) else ((spec_l01Gcd.f k2 (wrap64 ((wrap64 ((wrap64 (t135 * t133)) * t134)) - (wrap64 ((wrap64 (a1_1 * a2_1)) * t136)))) x14_2).bind fun t141 => (spec_l09Paired.l0 k2 t141 (wrap64 (1 + 1)) (wrap64 ((wrap64 (a2_1 * t133)) * t136)) (wrap64 ((wrap64 ((wrap64 (t135 * t133)) * t134)) - (wrap64 ((wrap64 (a1_1 * a2_1)) * t136)))) (wrap64 ((wrap64 (t133 * t134)) * t136)) (wrap64 ((wrap64 ((wrap64 (-a1_1)) * t134)) * t136))))) = some (r1, r2, r3, r4, r5) := by rw [if_pos rfl] at H; exact H
         clear H
         have H := H1
         clear H1
         by_cases c75 : (wrap64 ((wrap64 ((wrap64 (t135 * t133)) * t134)) - (wrap64 ((wrap64 (a1_1 * a2_1)) * t136)))) = 0
         ·rw [if_pos c75] at H
          have c75b0 : ((wrap64 ((wrap64 ((wrap64 (t135 * t133)) * t134)) - (wrap64 ((wrap64 (a1_1 * a2_1)) * t136)))) == 0) = true := beq_iff_eq.mpr c75
          have c75b1 : ((wrap64 ((wrap64 ((wrap64 (t135 * t133)) * t134)) - (wrap64 ((wrap64 (a1_1 * a2_1)) * t136)))) != 0) = false := bne_eq_false_iff_eq.mpr c75
          clear c75
          by_cases c76 : x14_2 = 0
          ·rw [if_pos c76] at H
           have c76b0 : (x14_2 == 0) = true := beq_iff_eq.mpr c76
           have c76b1 : (x14_2 != 0) = false := bne_eq_false_iff_eq.mpr c76
           clear c76
           have H' := Aside0.mk H
           clear H
           have hnb77 := NB137_130.out
           have hnc77 := NB130_137.out
           have hnb78 := NB137_131.out
           have hnc78 := NB131_137.out
           have hnb79 := NB137_132.out
           have hnc79 := NB132_137.out
           have hcz80_0 : wr.cell? ⟨gb137, 0, none⟩ = some (.int .i64 (wrap64 ((wrap64 (a2_1 * t133)) * t136))) := (blk_cell BK137.out 0).trans rfl
           have hcz80_1 : wr.cell? ⟨gb137, 1, none⟩ = some (.int .i64 (wrap64 ((wrap64 ((wrap64 (t135 * t133)) * t134)) - (wrap64 ((wrap64 (a1_1 * a2_1)) * t136))))) := (blk_cell BK137.out 1).trans rfl
           have hcz80_2 : wr.cell? ⟨gb137, 2, none⟩ = some (.int .i64 (wrap64 ((wrap64 (t133 * t134)) * t136))) := (blk_cell BK137.out 2).trans rfl
           have hcz80_3 : wr.cell? ⟨gb137, 3, none⟩ = some (.int .i64 (wrap64 ((wrap64 ((wrap64 (-a1_1)) * t134)) * t136))) := (blk_cell BK137.out 3).trans rfl
           have hfz80_0 := blk_frozen BK137.out 0
           have hfz80_1 := blk_frozen BK137.out 1
           have hfz80_2 := blk_frozen BK137.out 2
           have hfz80_3 := blk_frozen BK137.out 3
           go_wp2
           repeat (go_quiet (fail); try go_wp2)
           go_roundg k2
           case measure => have := HJ3.out; have := HK2.out; omega
           case rel => exact ⟨(x14_2), (wrap64 (1 + 1)), (by first | rfl | (simp; done) | (simp [*]; done) | (simp [wrap64]; done)), (by first | rfl | (simp; done) | (simp [*]; done) | (simp [wrap64]; done)), H', ⟨by have := HJ3.out; have := HK2.out; omega⟩, ⟨by (with_reducible repeat first | apply blk_drewN | apply blk_drew | apply blk_alloc); exact BK130.out⟩, ⟨by (with_reducible repeat first | apply blk_drewN | apply blk_drew | apply blk_alloc); exact BK131.out⟩, ⟨by (with_reducible repeat first | apply blk_drewN | apply blk_drew | apply blk_alloc); exact BK132.out⟩, ⟨by (with_reducible repeat first | apply blk_drewN | apply blk_drew | apply blk_alloc); exact BK137.out⟩, ⟨by repeat (first | (with_reducible first | exact HB.out | apply below_alloc | apply pw_below_drewN | apply below_drew1 | refine below_set ?_ GE130.out | refine below_set ?_ GE131.out | refine below_set ?_ GE132.out | refine below_set ?_ GE137.out) | exact HB.out)⟩⟩
          ·rw [if_neg c76] at H
           have c76b0 : (x14_2 == 0) = false := beq_eq_false_iff_ne.mpr c76
           have c76b1 : (x14_2 != 0) = true := bne_iff_ne.mpr c76
           replace H := Option.bind_eq_some_iff.mp H
           obtain ⟨t140, A810, H⟩ := H
           replace H : (spec_l09Paired.l0 k2 t140 (wrap64 (1 + 1)) (wrap64 ((wrap64 (a2_1 * t133)) * t136)) (wrap64 ((wrap64 ((wrap64 (t135 * t133)) * t134)) - (wrap64 ((wrap64 (a1_1 * a2_1)) * t136)))) (wrap64 ((wrap64 (t133 * t134)) * t136)) (wrap64 ((wrap64 ((wrap64 (-a1_1)) * t134)) * t136))) = some (r1, r2, r3, r4, r5) := H
           have A81 := Aside0.mk A810
           clear A810
           have H' := Aside0.mk H
           clear H
           have hnb82 := NB137_130.out
           have hnc82 := NB130_137.out
           have hnb83 := NB137_131.out
           have hnc83 := NB131_137.out
           have hnb84 := NB137_132.out
           have hnc84 := NB132_137.out
           have hcz85_0 : wr.cell? ⟨gb137, 0, none⟩ = some (.int .i64 (wrap64 ((wrap64 (a2_1 * t133)) * t136))) := (blk_cell BK137.out 0).trans rfl
           have hcz85_1 : wr.cell? ⟨gb137, 1, none⟩ = some (.int .i64 (wrap64 ((wrap64 ((wrap64 (t135 * t133)) * t134)) - (wrap64 ((wrap64 (a1_1 * a2_1)) * t136))))) := (blk_cell BK137.out 1).trans rfl
           have hcz85_2 : wr.cell? ⟨gb137, 2, none⟩ = some (.int .i64 (wrap64 ((wrap64 (t133 * t134)) * t136))) := (blk_cell BK137.out 2).trans rfl
           have hcz85_3 : wr.cell? ⟨gb137, 3, none⟩ = some (.int .i64 (wrap64 ((wrap64 ((wrap64 (-a1_1)) * t134)) * t136))) := (blk_cell BK137.out 3).trans rfl
           have hfz85_0 := blk_frozen BK137.out 0
           have hfz85_1 := blk_frozen BK137.out 1
           have hfz85_2 := blk_frozen BK137.out 2
           have hfz85_3 := blk_frozen BK137.out 3
           go_wp2_with (first | (go_at_call 85; (with_reducible refine (spec_l01Gcd.calls k2 (wrap64 ((wrap64 ((wrap64 (t135 * t133)) * t134)) - (wrap64 ((wrap64 (a1_1 * a2_1)) * t136)))) x14_2 t140 _ A81.out).mono ?_); rintro e w86 ⟨rfl, hb⟩; have n0_ := Aside0.mk (blk_below (g := gb130) (o := .cells #[.int .i64 a1_0, .int .i64 a1_1, .int .i64 a1_2] 29 (0, 0)) (by (with_reducible repeat first | apply blk_drewN | apply blk_drew | apply blk_alloc); exact BK130.out) hb); have n1_ := Aside0.mk (blk_below (g := gb131) (o := .cells #[.int .i64 a2_0, .int .i64 a2_1, .int .i64 a2_2] 29 (0, 0)) (by (with_reducible repeat first | apply blk_drewN | apply blk_drew | apply blk_alloc); exact BK131.out) hb); have n2_ := Aside0.mk (blk_below (g := gb132) (o := .cells #[.int .i64 0, .int .i64 0, .int .i64 0, .int .i64 0] 26 (0, 0)) (by (with_reducible repeat first | apply blk_drewN | apply blk_drew | apply blk_alloc); exact BK132.out) hb); have n3_ := Aside0.mk (blk_below (g := gb137) (o := .cells #[.int .i64 (wrap64 ((wrap64 (a2_1 * t133)) * t136)), .int .i64 (wrap64 ((wrap64 ((wrap64 (t135 * t133)) * t134)) - (wrap64 ((wrap64 (a1_1 * a2_1)) * t136)))), .int .i64 (wrap64 ((wrap64 (t133 * t134)) * t136)), .int .i64 (wrap64 ((wrap64 ((wrap64 (-a1_1)) * t134)) * t136))] 98 (0, 0)) (by (with_reducible repeat first | apply blk_drewN | apply blk_drew | apply blk_alloc); exact BK137.out) hb); have n4_ := Aside0.mk (below_step (by repeat (first | (with_reducible first | exact HB.out | apply below_alloc | apply pw_below_drewN | apply below_drew1 | refine below_set ?_ GE130.out | refine below_set ?_ GE131.out | refine below_set ?_ GE132.out | refine below_set ?_ GE137.out) | exact HB.out)) hb); clear BK130; clear BK131; clear BK132; clear BK137; clear HB; have BK130 := n0_; have BK131 := n1_; have BK132 := n2_; have BK137 := n3_; have HB := n4_; clear n0_ n1_ n2_ n3_ n4_; (try clear hb); (try clear hb2); (try clear hk); (try clear hi)))
           repeat (go_quiet (first | (go_at_call 85; (with_reducible refine (spec_l01Gcd.calls k2 (wrap64 ((wrap64 ((wrap64 (t135 * t133)) * t134)) - (wrap64 ((wrap64 (a1_1 * a2_1)) * t136)))) x14_2 t140 _ A81.out).mono ?_); rintro e w86 ⟨rfl, hb⟩; have n0_ := Aside0.mk (blk_below (g := gb130) (o := .cells #[.int .i64 a1_0, .int .i64 a1_1, .int .i64 a1_2] 29 (0, 0)) (by (with_reducible repeat first | apply blk_drewN | apply blk_drew | apply blk_alloc); exact BK130.out) hb); have n1_ := Aside0.mk (blk_below (g := gb131) (o := .cells #[.int .i64 a2_0, .int .i64 a2_1, .int .i64 a2_2] 29 (0, 0)) (by (with_reducible repeat first | apply blk_drewN | apply blk_drew | apply blk_alloc); exact BK131.out) hb); have n2_ := Aside0.mk (blk_below (g := gb132) (o := .cells #[.int .i64 0, .int .i64 0, .int .i64 0, .int .i64 0] 26 (0, 0)) (by (with_reducible repeat first | apply blk_drewN | apply blk_drew | apply blk_alloc); exact BK132.out) hb); have n3_ := Aside0.mk (blk_below (g := gb137) (o := .cells #[.int .i64 (wrap64 ((wrap64 (a2_1 * t133)) * t136)), .int .i64 (wrap64 ((wrap64 ((wrap64 (t135 * t133)) * t134)) - (wrap64 ((wrap64 (a1_1 * a2_1)) * t136)))), .int .i64 (wrap64 ((wrap64 (t133 * t134)) * t136)), .int .i64 (wrap64 ((wrap64 ((wrap64 (-a1_1)) * t134)) * t136))] 98 (0, 0)) (by (with_reducible repeat first | apply blk_drewN | apply blk_drew | apply blk_alloc); exact BK137.out) hb); have n4_ := Aside0.mk (below_step (by repeat (first | (with_reducible first | exact HB.out | apply below_alloc | apply pw_below_drewN | apply below_drew1 | refine below_set ?_ GE130.out | refine below_set ?_ GE131.out | refine below_set ?_ GE132.out | refine below_set ?_ GE137.out) | exact HB.out)) hb); clear BK130; clear BK131; clear BK132; clear BK137; clear HB; have BK130 := n0_; have BK131 := n1_; have BK132 := n2_; have BK137 := n3_; have HB := n4_; clear n0_ n1_ n2_ n3_ n4_; (try clear hb); (try clear hb2); (try clear hk); (try clear hi))); try go_wp2_with (first | (go_at_call 85; (with_reducible refine (spec_l01Gcd.calls k2 (wrap64 ((wrap64 ((wrap64 (t135 * t133)) * t134)) - (wrap64 ((wrap64 (a1_1 * a2_1)) * t136)))) x14_2 t140 _ A81.out).mono ?_); rintro e w86 ⟨rfl, hb⟩; have n0_ := Aside0.mk (blk_below (g := gb130) (o := .cells #[.int .i64 a1_0, .int .i64 a1_1, .int .i64 a1_2] 29 (0, 0)) (by (with_reducible repeat first | apply blk_drewN | apply blk_drew | apply blk_alloc); exact BK130.out) hb); have n1_ := Aside0.mk (blk_below (g := gb131) (o := .cells #[.int .i64 a2_0, .int .i64 a2_1, .int .i64 a2_2] 29 (0, 0)) (by (with_reducible repeat first | apply blk_drewN | apply blk_drew | apply blk_alloc); exact BK131.out) hb); have n2_ := Aside0.mk (blk_below (g := gb132) (o := .cells #[.int .i64 0, .int .i64 0, .int .i64 0, .int .i64 0] 26 (0, 0)) (by (with_reducible repeat first | apply blk_drewN | apply blk_drew | apply blk_alloc); exact BK132.out) hb); have n3_ := Aside0.mk (blk_below (g := gb137) (o := .cells #[.int .i64 (wrap64 ((wrap64 (a2_1 * t133)) * t136)), .int .i64 (wrap64 ((wrap64 ((wrap64 (t135 * t133)) * t134)) - (wrap64 ((wrap64 (a1_1 * a2_1)) * t136)))), .int .i64 (wrap64 ((wrap64 (t133 * t134)) * t136)), .int .i64 (wrap64 ((wrap64 ((wrap64 (-a1_1)) * t134)) * t136))] 98 (0, 0)) (by (with_reducible repeat first | apply blk_drewN | apply blk_drew | apply blk_alloc); exact BK137.out) hb); have n4_ := Aside0.mk (below_step (by repeat (first | (with_reducible first | exact HB.out | apply below_alloc | apply pw_below_drewN | apply below_drew1 | refine below_set ?_ GE130.out | refine below_set ?_ GE131.out | refine below_set ?_ GE132.out | refine below_set ?_ GE137.out) | exact HB.out)) hb); clear BK130; clear BK131; clear BK132; clear BK137; clear HB; have BK130 := n0_; have BK131 := n1_; have BK132 := n2_; have BK137 := n3_; have HB := n4_; clear n0_ n1_ n2_ n3_ n4_; (try clear hb); (try clear hb2); (try clear hk); (try clear hi))))
           go_roundg k2
           case measure => have := HJ3.out; have := HK2.out; omega
           case rel => exact ⟨(t140), (wrap64 (1 + 1)), (by first | rfl | (simp; done) | (simp [*]; done) | (simp [wrap64]; done)), (by first | rfl | (simp; done) | (simp [*]; done) | (simp [wrap64]; done)), H', ⟨by have := HJ3.out; have := HK2.out; omega⟩, ⟨by (with_reducible repeat first | apply blk_drewN | apply blk_drew | apply blk_alloc); exact BK130.out⟩, ⟨by (with_reducible repeat first | apply blk_drewN | apply blk_drew | apply blk_alloc); exact BK131.out⟩, ⟨by (with_reducible repeat first | apply blk_drewN | apply blk_drew | apply blk_alloc); exact BK132.out⟩, ⟨by (with_reducible repeat first | apply blk_drewN | apply blk_drew | apply blk_alloc); exact BK137.out⟩, ⟨by repeat (first | (with_reducible first | exact HB.out | apply below_alloc | apply pw_below_drewN | apply below_drew1 | refine below_set ?_ GE130.out | refine below_set ?_ GE131.out | refine below_set ?_ GE132.out | refine below_set ?_ GE137.out) | exact HB.out)⟩⟩
         ·rw [if_neg c75] at H
          have c75b0 : ((wrap64 ((wrap64 ((wrap64 (t135 * t133)) * t134)) - (wrap64 ((wrap64 (a1_1 * a2_1)) * t136)))) == 0) = false := beq_eq_false_iff_ne.mpr c75
          have c75b1 : ((wrap64 ((wrap64 ((wrap64 (t135 * t133)) * t134)) - (wrap64 ((wrap64 (a1_1 * a2_1)) * t136)))) != 0) = true := bne_iff_ne.mpr c75
          replace H := Option.bind_eq_some_iff.mp H
          obtain ⟨t141, A870, H⟩ := H
          replace H : (spec_l09Paired.l0 k2 t141 (wrap64 (1 + 1)) (wrap64 ((wrap64 (a2_1 * t133)) * t136)) (wrap64 ((wrap64 ((wrap64 (t135 * t133)) * t134)) - (wrap64 ((wrap64 (a1_1 * a2_1)) * t136)))) (wrap64 ((wrap64 (t133 * t134)) * t136)) (wrap64 ((wrap64 ((wrap64 (-a1_1)) * t134)) * t136))) = some (r1, r2, r3, r4, r5) := H
          have A87 := Aside0.mk A870
          clear A870
          have H' := Aside0.mk H
          clear H
          have hnb88 := NB137_130.out
          have hnc88 := NB130_137.out
          have hnb89 := NB137_131.out
          have hnc89 := NB131_137.out
          have hnb90 := NB137_132.out
          have hnc90 := NB132_137.out
          have hcz91_0 : wr.cell? ⟨gb137, 0, none⟩ = some (.int .i64 (wrap64 ((wrap64 (a2_1 * t133)) * t136))) := (blk_cell BK137.out 0).trans rfl
          have hcz91_1 : wr.cell? ⟨gb137, 1, none⟩ = some (.int .i64 (wrap64 ((wrap64 ((wrap64 (t135 * t133)) * t134)) - (wrap64 ((wrap64 (a1_1 * a2_1)) * t136))))) := (blk_cell BK137.out 1).trans rfl
          have hcz91_2 : wr.cell? ⟨gb137, 2, none⟩ = some (.int .i64 (wrap64 ((wrap64 (t133 * t134)) * t136))) := (blk_cell BK137.out 2).trans rfl
          have hcz91_3 : wr.cell? ⟨gb137, 3, none⟩ = some (.int .i64 (wrap64 ((wrap64 ((wrap64 (-a1_1)) * t134)) * t136))) := (blk_cell BK137.out 3).trans rfl
          have hfz91_0 := blk_frozen BK137.out 0
          have hfz91_1 := blk_frozen BK137.out 1
          have hfz91_2 := blk_frozen BK137.out 2
          have hfz91_3 := blk_frozen BK137.out 3
          go_wp2_with (first | (go_at_call 85; (with_reducible refine (spec_l01Gcd.calls k2 (wrap64 ((wrap64 ((wrap64 (t135 * t133)) * t134)) - (wrap64 ((wrap64 (a1_1 * a2_1)) * t136)))) x14_2 t141 _ A87.out).mono ?_); rintro e w92 ⟨rfl, hb⟩; have n0_ := Aside0.mk (blk_below (g := gb130) (o := .cells #[.int .i64 a1_0, .int .i64 a1_1, .int .i64 a1_2] 29 (0, 0)) (by (with_reducible repeat first | apply blk_drewN | apply blk_drew | apply blk_alloc); exact BK130.out) hb); have n1_ := Aside0.mk (blk_below (g := gb131) (o := .cells #[.int .i64 a2_0, .int .i64 a2_1, .int .i64 a2_2] 29 (0, 0)) (by (with_reducible repeat first | apply blk_drewN | apply blk_drew | apply blk_alloc); exact BK131.out) hb); have n2_ := Aside0.mk (blk_below (g := gb132) (o := .cells #[.int .i64 0, .int .i64 0, .int .i64 0, .int .i64 0] 26 (0, 0)) (by (with_reducible repeat first | apply blk_drewN | apply blk_drew | apply blk_alloc); exact BK132.out) hb); have n3_ := Aside0.mk (blk_below (g := gb137) (o := .cells #[.int .i64 (wrap64 ((wrap64 (a2_1 * t133)) * t136)), .int .i64 (wrap64 ((wrap64 ((wrap64 (t135 * t133)) * t134)) - (wrap64 ((wrap64 (a1_1 * a2_1)) * t136)))), .int .i64 (wrap64 ((wrap64 (t133 * t134)) * t136)), .int .i64 (wrap64 ((wrap64 ((wrap64 (-a1_1)) * t134)) * t136))] 98 (0, 0)) (by (with_reducible repeat first | apply blk_drewN | apply blk_drew | apply blk_alloc); exact BK137.out) hb); have n4_ := Aside0.mk (below_step (by repeat (first | (with_reducible first | exact HB.out | apply below_alloc | apply pw_below_drewN | apply below_drew1 | refine below_set ?_ GE130.out | refine below_set ?_ GE131.out | refine below_set ?_ GE132.out | refine below_set ?_ GE137.out) | exact HB.out)) hb); clear BK130; clear BK131; clear BK132; clear BK137; clear HB; have BK130 := n0_; have BK131 := n1_; have BK132 := n2_; have BK137 := n3_; have HB := n4_; clear n0_ n1_ n2_ n3_ n4_; (try clear hb); (try clear hb2); (try clear hk); (try clear hi)))
          repeat (go_quiet (first | (go_at_call 85; (with_reducible refine (spec_l01Gcd.calls k2 (wrap64 ((wrap64 ((wrap64 (t135 * t133)) * t134)) - (wrap64 ((wrap64 (a1_1 * a2_1)) * t136)))) x14_2 t141 _ A87.out).mono ?_); rintro e w92 ⟨rfl, hb⟩; have n0_ := Aside0.mk (blk_below (g := gb130) (o := .cells #[.int .i64 a1_0, .int .i64 a1_1, .int .i64 a1_2] 29 (0, 0)) (by (with_reducible repeat first | apply blk_drewN | apply blk_drew | apply blk_alloc); exact BK130.out) hb); have n1_ := Aside0.mk (blk_below (g := gb131) (o := .cells #[.int .i64 a2_0, .int .i64 a2_1, .int .i64 a2_2] 29 (0, 0)) (by (with_reducible repeat first | apply blk_drewN | apply blk_drew | apply blk_alloc); exact BK131.out) hb); have n2_ := Aside0.mk (blk_below (g := gb132) (o := .cells #[.int .i64 0, .int .i64 0, .int .i64 0, .int .i64 0] 26 (0, 0)) (by (with_reducible repeat first | apply blk_drewN | apply blk_drew | apply blk_alloc); exact BK132.out) hb); have n3_ := Aside0.mk (blk_below (g := gb137) (o := .cells #[.int .i64 (wrap64 ((wrap64 (a2_1 * t133)) * t136)), .int .i64 (wrap64 ((wrap64 ((wrap64 (t135 * t133)) * t134)) - (wrap64 ((wrap64 (a1_1 * a2_1)) * t136)))), .int .i64 (wrap64 ((wrap64 (t133 * t134)) * t136)), .int .i64 (wrap64 ((wrap64 ((wrap64 (-a1_1)) * t134)) * t136))] 98 (0, 0)) (by (with_reducible repeat first | apply blk_drewN | apply blk_drew | apply blk_alloc); exact BK137.out) hb); have n4_ := Aside0.mk (below_step (by repeat (first | (with_reducible first | exact HB.out | apply below_alloc | apply pw_below_drewN | apply below_drew1 | refine below_set ?_ GE130.out | refine below_set ?_ GE131.out | refine below_set ?_ GE132.out | refine below_set ?_ GE137.out) | exact HB.out)) hb); clear BK130; clear BK131; clear BK132; clear BK137; clear HB; have BK130 := n0_; have BK131 := n1_; have BK132 := n2_; have BK137 := n3_; have HB := n4_; clear n0_ n1_ n2_ n3_ n4_; (try clear hb); (try clear hb2); (try clear hk); (try clear hi))); try go_wp2_with (first | (go_at_call 85; (with_reducible refine (spec_l01Gcd.calls k2 (wrap64 ((wrap64 ((wrap64 (t135 * t133)) * t134)) - (wrap64 ((wrap64 (a1_1 * a2_1)) * t136)))) x14_2 t141 _ A87.out).mono ?_); rintro e w92 ⟨rfl, hb⟩; have n0_ := Aside0.mk (blk_below (g := gb130) (o := .cells #[.int .i64 a1_0, .int .i64 a1_1, .int .i64 a1_2] 29 (0, 0)) (by (with_reducible repeat first | apply blk_drewN | apply blk_drew | apply blk_alloc); exact BK130.out) hb); have n1_ := Aside0.mk (blk_below (g := gb131) (o := .cells #[.int .i64 a2_0, .int .i64 a2_1, .int .i64 a2_2] 29 (0, 0)) (by (with_reducible repeat first | apply blk_drewN | apply blk_drew | apply blk_alloc); exact BK131.out) hb); have n2_ := Aside0.mk (blk_below (g := gb132) (o := .cells #[.int .i64 0, .int .i64 0, .int .i64 0, .int .i64 0] 26 (0, 0)) (by (with_reducible repeat first | apply blk_drewN | apply blk_drew | apply blk_alloc); exact BK132.out) hb); have n3_ := Aside0.mk (blk_below (g := gb137) (o := .cells #[.int .i64 (wrap64 ((wrap64 (a2_1 * t133)) * t136)), .int .i64 (wrap64 ((wrap64 ((wrap64 (t135 * t133)) * t134)) - (wrap64 ((wrap64 (a1_1 * a2_1)) * t136)))), .int .i64 (wrap64 ((wrap64 (t133 * t134)) * t136)), .int .i64 (wrap64 ((wrap64 ((wrap64 (-a1_1)) * t134)) * t136))] 98 (0, 0)) (by (with_reducible repeat first | apply blk_drewN | apply blk_drew | apply blk_alloc); exact BK137.out) hb); have n4_ := Aside0.mk (below_step (by repeat (first | (with_reducible first | exact HB.out | apply below_alloc | apply pw_below_drewN | apply below_drew1 | refine below_set ?_ GE130.out | refine below_set ?_ GE131.out | refine below_set ?_ GE132.out | refine below_set ?_ GE137.out) | exact HB.out)) hb); clear BK130; clear BK131; clear BK132; clear BK137; clear HB; have BK130 := n0_; have BK131 := n1_; have BK132 := n2_; have BK137 := n3_; have HB := n4_; clear n0_ n1_ n2_ n3_ n4_; (try clear hb); (try clear hb2); (try clear hk); (try clear hi))))
          go_roundg k2
          case measure => have := HJ3.out; have := HK2.out; omega
          case rel => exact ⟨(t141), (wrap64 (1 + 1)), (by first | rfl | (simp; done) | (simp [*]; done) | (simp [wrap64]; done)), (by first | rfl | (simp; done) | (simp [*]; done) | (simp [wrap64]; done)), H', ⟨by have := HJ3.out; have := HK2.out; omega⟩, ⟨by (with_reducible repeat first | apply blk_drewN | apply blk_drew | apply blk_alloc); exact BK130.out⟩, ⟨by (with_reducible repeat first | apply blk_drewN | apply blk_drew | apply blk_alloc); exact BK131.out⟩, ⟨by (with_reducible repeat first | apply blk_drewN | apply blk_drew | apply blk_alloc); exact BK132.out⟩, ⟨by (with_reducible repeat first | apply blk_drewN | apply blk_drew | apply blk_alloc); exact BK137.out⟩, ⟨by repeat (first | (with_reducible first | exact HB.out | apply below_alloc | apply pw_below_drewN | apply below_drew1 | refine below_set ?_ GE130.out | refine below_set ?_ GE131.out | refine below_set ?_ GE132.out | refine below_set ?_ GE137.out) | exact HB.out)⟩⟩
        ·rw [if_neg c74] at H
         have c74b0 : (x15_2 == 1) = false := beq_eq_false_iff_ne.mpr c74
         have c74b1 : (x15_2 != 1) = true := bne_iff_ne.mpr c74
         by_cases c93 : x15_2 = 2
         ·subst c93
          have H1 : (if (wrap64 ((wrap64 (t133 * t134)) * t136)) = 0 then (if x14_2 = 0 then (spec_l09Paired.l0 k2 x14_2 (wrap64 (2 + 1)) (wrap64 ((wrap64 (a2_1 * t133)) * t136)) (wrap64 ((wrap64 ((wrap64 (t135 * t133)) * t134)) - (wrap64 ((wrap64 (a1_1 * a2_1)) * t136)))) (wrap64 ((wrap64 (t133 * t134)) * t136)) (wrap64 ((wrap64 ((wrap64 (-a1_1)) * t134)) * t136))) else ((spec_l01Gcd.f k2 (wrap64 ((wrap64 (t133 * t134)) * t136)) x14_2).bind fun t142 => (spec_l09Paired.l0 k2 t142 (wrap64 (2 + 1)) (wrap64 ((wrap64 (a2_1 * t133)) * t136)) (wrap64 ((wrap64 ((wrap64 (t135 * t133)) * t134)) - (wrap64 ((wrap64 (a1_1 * a2_1)) * t136)))) (wrap64 ((wrap64 (t133 * t134)) * t136)) (wrap64 ((wrap64 ((wrap64 (-a1_1)) * t134)) * t136))))) else ((spec_l01Gcd.f k2 (wrap64 ((wrap64 (t133 * t134)) * t136)) x14_2).bind fun t143 => (spec_l09Paired.l0 k2 t143 (wrap64 (2 + 1)) (wrap64 ((wrap64 (a2_1 * t133)) * t136)) (wrap64 ((wrap64 ((wrap64 (t135 * t133)) * t134)) - (wrap64 ((wrap64 (a1_1 * a2_1)) * t136)))) (wrap64 ((wrap64 (t133 * t134)) * t136)) (wrap64 ((wrap64 ((wrap64 (-a1_1)) * t134)) * t136))))) = some (r1, r2, r3, r4, r5) := by rw [if_pos rfl] at H; exact H
          clear H
          have H := H1
          clear H1
          by_cases c94 : (wrap64 ((wrap64 (t133 * t134)) * t136)) = 0
          ·rw [if_pos c94] at H
           have c94b0 : ((wrap64 ((wrap64 (t133 * t134)) * t136)) == 0) = true := beq_iff_eq.mpr c94
           have c94b1 : ((wrap64 ((wrap64 (t133 * t134)) * t136)) != 0) = false := bne_eq_false_iff_eq.mpr c94
           clear c94
           by_cases c95 : x14_2 = 0
           ·rw [if_pos c95] at H
            have c95b0 : (x14_2 == 0) = true := beq_iff_eq.mpr c95
            have c95b1 : (x14_2 != 0) = false := bne_eq_false_iff_eq.mpr c95
            clear c95
            have H' := Aside0.mk H
            clear H
            have hnb96 := NB137_130.out
            have hnc96 := NB130_137.out
            have hnb97 := NB137_131.out
            have hnc97 := NB131_137.out
            have hnb98 := NB137_132.out
            have hnc98 := NB132_137.out
            have hcz99_0 : wr.cell? ⟨gb137, 0, none⟩ = some (.int .i64 (wrap64 ((wrap64 (a2_1 * t133)) * t136))) := (blk_cell BK137.out 0).trans rfl
            have hcz99_1 : wr.cell? ⟨gb137, 1, none⟩ = some (.int .i64 (wrap64 ((wrap64 ((wrap64 (t135 * t133)) * t134)) - (wrap64 ((wrap64 (a1_1 * a2_1)) * t136))))) := (blk_cell BK137.out 1).trans rfl
            have hcz99_2 : wr.cell? ⟨gb137, 2, none⟩ = some (.int .i64 (wrap64 ((wrap64 (t133 * t134)) * t136))) := (blk_cell BK137.out 2).trans rfl
            have hcz99_3 : wr.cell? ⟨gb137, 3, none⟩ = some (.int .i64 (wrap64 ((wrap64 ((wrap64 (-a1_1)) * t134)) * t136))) := (blk_cell BK137.out 3).trans rfl
            have hfz99_0 := blk_frozen BK137.out 0
            have hfz99_1 := blk_frozen BK137.out 1
            have hfz99_2 := blk_frozen BK137.out 2
            have hfz99_3 := blk_frozen BK137.out 3
            go_wp2
            repeat (go_quiet (fail); try go_wp2)
            go_roundg k2
            case measure => have := HJ3.out; have := HK2.out; omega
            case rel => exact ⟨(x14_2), (wrap64 (2 + 1)), (by first | rfl | (simp; done) | (simp [*]; done) | (simp [wrap64]; done)), (by first | rfl | (simp; done) | (simp [*]; done) | (simp [wrap64]; done)), H', ⟨by have := HJ3.out; have := HK2.out; omega⟩, ⟨by (with_reducible repeat first | apply blk_drewN | apply blk_drew | apply blk_alloc); exact BK130.out⟩, ⟨by (with_reducible repeat first | apply blk_drewN | apply blk_drew | apply blk_alloc); exact BK131.out⟩, ⟨by (with_reducible repeat first | apply blk_drewN | apply blk_drew | apply blk_alloc); exact BK132.out⟩, ⟨by (with_reducible repeat first | apply blk_drewN | apply blk_drew | apply blk_alloc); exact BK137.out⟩, ⟨by repeat (first | (with_reducible first | exact HB.out | apply below_alloc | apply pw_below_drewN | apply below_drew1 | refine below_set ?_ GE130.out | refine below_set ?_ GE131.out | refine below_set ?_ GE132.out | refine below_set ?_ GE137.out) | exact HB.out)⟩⟩
           ·rw [if_neg c95] at H
            have c95b0 : (x14_2 == 0) = false := beq_eq_false_iff_ne.mpr c95
            have c95b1 : (x14_2 != 0) = true := bne_iff_ne.mpr c95
            replace H := Option.bind_eq_some_iff.mp H
            obtain ⟨t142, A1000, H⟩ := H
            replace H : (spec_l09Paired.l0 k2 t142 (wrap64 (2 + 1)) (wrap64 ((wrap64 (a2_1 * t133)) * t136)) (wrap64 ((wrap64 ((wrap64 (t135 * t133)) * t134)) - (wrap64 ((wrap64 (a1_1 * a2_1)) * t136)))) (wrap64 ((wrap64 (t133 * t134)) * t136)) (wrap64 ((wrap64 ((wrap64 (-a1_1)) * t134)) * t136))) = some (r1, r2, r3, r4, r5) := H
            have A100 := Aside0.mk A1000
            clear A1000
            have H' := Aside0.mk H
            clear H
            have hnb101 := NB137_130.out
            have hnc101 := NB130_137.out
            have hnb102 := NB137_131.out
            have hnc102 := NB131_137.out
            have hnb103 := NB137_132.out
            have hnc103 := NB132_137.out
            have hcz104_0 : wr.cell? ⟨gb137, 0, none⟩ = some (.int .i64 (wrap64 ((wrap64 (a2_1 * t133)) * t136))) := (blk_cell BK137.out 0).trans rfl
            have hcz104_1 : wr.cell? ⟨gb137, 1, none⟩ = some (.int .i64 (wrap64 ((wrap64 ((wrap64 (t135 * t133)) * t134)) - (wrap64 ((wrap64 (a1_1 * a2_1)) * t136))))) := (blk_cell BK137.out 1).trans rfl
            have hcz104_2 : wr.cell? ⟨gb137, 2, none⟩ = some (.int .i64 (wrap64 ((wrap64 (t133 * t134)) * t136))) := (blk_cell BK137.out 2).trans rfl
            have hcz104_3 : wr.cell? ⟨gb137, 3, none⟩ = some (.int .i64 (wrap64 ((wrap64 ((wrap64 (-a1_1)) * t134)) * t136))) := (blk_cell BK137.out 3).trans rfl
            have hfz104_0 := blk_frozen BK137.out 0
            have hfz104_1 := blk_frozen BK137.out 1
            have hfz104_2 := blk_frozen BK137.out 2
            have hfz104_3 := blk_frozen BK137.out 3
            go_wp2_with (first | (go_at_call 85; (with_reducible refine (spec_l01Gcd.calls k2 (wrap64 ((wrap64 (t133 * t134)) * t136)) x14_2 t142 _ A100.out).mono ?_); rintro e w105 ⟨rfl, hb⟩; have n0_ := Aside0.mk (blk_below (g := gb130) (o := .cells #[.int .i64 a1_0, .int .i64 a1_1, .int .i64 a1_2] 29 (0, 0)) (by (with_reducible repeat first | apply blk_drewN | apply blk_drew | apply blk_alloc); exact BK130.out) hb); have n1_ := Aside0.mk (blk_below (g := gb131) (o := .cells #[.int .i64 a2_0, .int .i64 a2_1, .int .i64 a2_2] 29 (0, 0)) (by (with_reducible repeat first | apply blk_drewN | apply blk_drew | apply blk_alloc); exact BK131.out) hb); have n2_ := Aside0.mk (blk_below (g := gb132) (o := .cells #[.int .i64 0, .int .i64 0, .int .i64 0, .int .i64 0] 26 (0, 0)) (by (with_reducible repeat first | apply blk_drewN | apply blk_drew | apply blk_alloc); exact BK132.out) hb); have n3_ := Aside0.mk (blk_below (g := gb137) (o := .cells #[.int .i64 (wrap64 ((wrap64 (a2_1 * t133)) * t136)), .int .i64 (wrap64 ((wrap64 ((wrap64 (t135 * t133)) * t134)) - (wrap64 ((wrap64 (a1_1 * a2_1)) * t136)))), .int .i64 (wrap64 ((wrap64 (t133 * t134)) * t136)), .int .i64 (wrap64 ((wrap64 ((wrap64 (-a1_1)) * t134)) * t136))] 98 (0, 0)) (by (with_reducible repeat first | apply blk_drewN | apply blk_drew | apply blk_alloc); exact BK137.out) hb); have n4_ := Aside0.mk (below_step (by repeat (first | (with_reducible first | exact HB.out | apply below_alloc | apply pw_below_drewN | apply below_drew1 | refine below_set ?_ GE130.out | refine below_set ?_ GE131.out | refine below_set ?_ GE132.out | refine below_set ?_ GE137.out) | exact HB.out)) hb); clear BK130; clear BK131; clear BK132; clear BK137; clear HB; have BK130 := n0_; have BK131 := n1_; have BK132 := n2_; have BK137 := n3_; have HB := n4_; clear n0_ n1_ n2_ n3_ n4_; (try clear hb); (try clear hb2); (try clear hk); (try clear hi)))
            repeat (go_quiet (first | (go_at_call 85; (with_reducible refine (spec_l01Gcd.calls k2 (wrap64 ((wrap64 (t133 * t134)) * t136)) x14_2 t142 _ A100.out).mono ?_); rintro e w105 ⟨rfl, hb⟩; have n0_ := Aside0.mk (blk_below (g := gb130) (o := .cells #[.int .i64 a1_0, .int .i64 a1_1, .int .i64 a1_2] 29 (0, 0)) (by (with_reducible repeat first | apply blk_drewN | apply blk_drew | apply blk_alloc); exact BK130.out) hb); have n1_ := Aside0.mk (blk_below (g := gb131) (o := .cells #[.int .i64 a2_0, .int .i64 a2_1, .int .i64 a2_2] 29 (0, 0)) (by (with_reducible repeat first | apply blk_drewN | apply blk_drew | apply blk_alloc); exact BK131.out) hb); have n2_ := Aside0.mk (blk_below (g := gb132) (o := .cells #[.int .i64 0, .int .i64 0, .int .i64 0, .int .i64 0] 26 (0, 0)) (by (with_reducible repeat first | apply blk_drewN | apply blk_drew | apply blk_alloc); exact BK132.out) hb); have n3_ := Aside0.mk (blk_below (g := gb137) (o := .cells #[.int .i64 (wrap64 ((wrap64 (a2_1 * t133)) * t136)), .int .i64 (wrap64 ((wrap64 ((wrap64 (t135 * t133)) * t134)) - (wrap64 ((wrap64 (a1_1 * a2_1)) * t136)))), .int .i64 (wrap64 ((wrap64 (t133 * t134)) * t136)), .int .i64 (wrap64 ((wrap64 ((wrap64 (-a1_1)) * t134)) * t136))] 98 (0, 0)) (by (with_reducible repeat first | apply blk_drewN | apply blk_drew | apply blk_alloc); exact BK137.out) hb); have n4_ := Aside0.mk (below_step (by repeat (first | (with_reducible first | exact HB.out | apply below_alloc | apply pw_below_drewN | apply below_drew1 | refine below_set ?_ GE130.out | refine below_set ?_ GE131.out | refine below_set ?_ GE132.out | refine below_set ?_ GE137.out) | exact HB.out)) hb); clear BK130; clear BK131; clear BK132; clear BK137; clear HB; have BK130 := n0_; have BK131 := n1_; have BK132 := n2_; have BK137 := n3_; have HB := n4_; clear n0_ n1_ n2_ n3_ n4_; (try clear hb); (try clear hb2); (try clear hk); (try clear hi))); try go_wp2_with (first | (go_at_call 85; (with_reducible refine (spec_l01Gcd.calls k2 (wrap64 ((wrap64 (t133 * t134)) * t136)) x14_2 t142 _ A100.out).mono ?_); rintro e w105 ⟨rfl, hb⟩; have n0_ := Aside0.mk (blk_below (g := gb130) (o := .cells #[.int .i64 a1_0, .int .i64 a1_1, .int .i64 a1_2] 29 (0, 0)) (by (with_reducible repeat first | apply blk_drewN | apply blk_drew | apply blk_alloc); exact BK130.out) hb); have n1_ := Aside0.mk (blk_below (g := gb131) (o := .cells #[.int .i64 a2_0, .int .i64 a2_1, .int .i64 a2_2] 29 (0, 0)) (by (with_reducible repeat first | apply blk_drewN | apply blk_drew | apply blk_alloc); exact BK131.out) hb); have n2_ := Aside0.mk (blk_below (g := gb132) (o := .cells #[.int .i64 0, .int .i64 0, .int .i64 0, .int .i64 0] 26 (0, 0)) (by (with_reducible repeat first | apply blk_drewN | apply blk_drew | apply blk_alloc); exact BK132.out) hb); have n3_ := Aside0.mk (blk_below (g := gb137) (o := .cells #[.int .i64 (wrap64 ((wrap64 (a2_1 * t133)) * t136)), .int .i64 (wrap64 ((wrap64 ((wrap64 (t135 * t133)) * t134)) - (wrap64 ((wrap64 (a1_1 * a2_1)) * t136)))), .int .i64 (wrap64 ((wrap64 (t133 * t134)) * t136)), .int .i64 (wrap64 ((wrap64 ((wrap64 (-a1_1)) * t134)) * t136))] 98 (0, 0)) (by (with_reducible repeat first | apply blk_drewN | apply blk_drew | apply blk_alloc); exact BK137.out) hb); have n4_ := Aside0.mk (below_step (by repeat (first | (with_reducible first | exact HB.out | apply below_alloc | apply pw_below_drewN | apply below_drew1 | refine below_set ?_ GE130.out | refine below_set ?_ GE131.out | refine below_set ?_ GE132.out | refine below_set ?_ GE137.out) | exact HB.out)) hb); clear BK130; clear BK131; clear BK132; clear BK137; clear HB; have BK130 := n0_; have BK131 := n1_; have BK132 := n2_; have BK137 := n3_; have HB := n4_; clear n0_ n1_ n2_ n3_ n4_; (try clear hb); (try clear hb2); (try clear hk); (try clear hi))))
            go_roundg k2
            case measure => have := HJ3.out; have := HK2.out; omega
            case rel => exact ⟨(t142), (wrap64 (2 + 1)), (by first | rfl | (simp; done) | (simp [*]; done) | (simp [wrap64]; done)), (by first | rfl | (simp; done) | (simp [*]; done) | (simp [wrap64]; done)), H', ⟨by have := HJ3.out; have := HK2.out; omega⟩, ⟨by (with_reducible repeat first | apply blk_drewN | apply blk_drew | apply blk_alloc); exact BK130.out⟩, ⟨by (with_reducible repeat first | apply blk_drewN | apply blk_drew | apply blk_alloc); exact BK131.out⟩, ⟨by (with_reducible repeat first | apply blk_drewN | apply blk_drew | apply blk_alloc); exact BK132.out⟩, ⟨by (with_reducible repeat first | apply blk_drewN | apply blk_drew | apply blk_alloc); exact BK137.out⟩, ⟨by repeat (first | (with_reducible first | exact HB.out | apply below_alloc | apply pw_below_drewN | apply below_drew1 | refine below_set ?_ GE130.out | refine below_set ?_ GE131.out | refine below_set ?_ GE132.out | refine below_set ?_ GE137.out) | exact HB.out)⟩⟩
          ·rw [if_neg c94] at H
           have c94b0 : ((wrap64 ((wrap64 (t133 * t134)) * t136)) == 0) = false := beq_eq_false_iff_ne.mpr c94
           have c94b1 : ((wrap64 ((wrap64 (t133 * t134)) * t136)) != 0) = true := bne_iff_ne.mpr c94
           replace H := Option.bind_eq_some_iff.mp H
           obtain ⟨t143, A1060, H⟩ := H
           replace H : (spec_l09Paired.l0 k2 t143 (wrap64 (2 + 1)) (wrap64 ((wrap64 (a2_1 * t133)) * t136)) (wrap64 ((wrap64 ((wrap64 (t135 * t133)) * t134)) - (wrap64 ((wrap64 (a1_1 * a2_1)) * t136)))) (wrap64 ((wrap64 (t133 * t134)) * t136)) (wrap64 ((wrap64 ((wrap64 (-a1_1)) * t134)) * t136))) = some (r1, r2, r3, r4, r5) := H
           have A106 := Aside0.mk A1060
           clear A1060
           have H' := Aside0.mk H
           clear H
           have hnb107 := NB137_130.out
           have hnc107 := NB130_137.out
           have hnb108 := NB137_131.out
           have hnc108 := NB131_137.out
           have hnb109 := NB137_132.out
           have hnc109 := NB132_137.out
           have hcz110_0 : wr.cell? ⟨gb137, 0, none⟩ = some (.int .i64 (wrap64 ((wrap64 (a2_1 * t133)) * t136))) := (blk_cell BK137.out 0).trans rfl
           have hcz110_1 : wr.cell? ⟨gb137, 1, none⟩ = some (.int .i64 (wrap64 ((wrap64 ((wrap64 (t135 * t133)) * t134)) - (wrap64 ((wrap64 (a1_1 * a2_1)) * t136))))) := (blk_cell BK137.out 1).trans rfl
           have hcz110_2 : wr.cell? ⟨gb137, 2, none⟩ = some (.int .i64 (wrap64 ((wrap64 (t133 * t134)) * t136))) := (blk_cell BK137.out 2).trans rfl
           have hcz110_3 : wr.cell? ⟨gb137, 3, none⟩ = some (.int .i64 (wrap64 ((wrap64 ((wrap64 (-a1_1)) * t134)) * t136))) := (blk_cell BK137.out 3).trans rfl
           have hfz110_0 := blk_frozen BK137.out 0
           have hfz110_1 := blk_frozen BK137.out 1
           have hfz110_2 := blk_frozen BK137.out 2
           have hfz110_3 := blk_frozen BK137.out 3
           go_wp2_with (first | (go_at_call 85; (with_reducible refine (spec_l01Gcd.calls k2 (wrap64 ((wrap64 (t133 * t134)) * t136)) x14_2 t143 _ A106.out).mono ?_); rintro e w111 ⟨rfl, hb⟩; have n0_ := Aside0.mk (blk_below (g := gb130) (o := .cells #[.int .i64 a1_0, .int .i64 a1_1, .int .i64 a1_2] 29 (0, 0)) (by (with_reducible repeat first | apply blk_drewN | apply blk_drew | apply blk_alloc); exact BK130.out) hb); have n1_ := Aside0.mk (blk_below (g := gb131) (o := .cells #[.int .i64 a2_0, .int .i64 a2_1, .int .i64 a2_2] 29 (0, 0)) (by (with_reducible repeat first | apply blk_drewN | apply blk_drew | apply blk_alloc); exact BK131.out) hb); have n2_ := Aside0.mk (blk_below (g := gb132) (o := .cells #[.int .i64 0, .int .i64 0, .int .i64 0, .int .i64 0] 26 (0, 0)) (by (with_reducible repeat first | apply blk_drewN | apply blk_drew | apply blk_alloc); exact BK132.out) hb); have n3_ := Aside0.mk (blk_below (g := gb137) (o := .cells #[.int .i64 (wrap64 ((wrap64 (a2_1 * t133)) * t136)), .int .i64 (wrap64 ((wrap64 ((wrap64 (t135 * t133)) * t134)) - (wrap64 ((wrap64 (a1_1 * a2_1)) * t136)))), .int .i64 (wrap64 ((wrap64 (t133 * t134)) * t136)), .int .i64 (wrap64 ((wrap64 ((wrap64 (-a1_1)) * t134)) * t136))] 98 (0, 0)) (by (with_reducible repeat first | apply blk_drewN | apply blk_drew | apply blk_alloc); exact BK137.out) hb); have n4_ := Aside0.mk (below_step (by repeat (first | (with_reducible first | exact HB.out | apply below_alloc | apply pw_below_drewN | apply below_drew1 | refine below_set ?_ GE130.out | refine below_set ?_ GE131.out | refine below_set ?_ GE132.out | refine below_set ?_ GE137.out) | exact HB.out)) hb); clear BK130; clear BK131; clear BK132; clear BK137; clear HB; have BK130 := n0_; have BK131 := n1_; have BK132 := n2_; have BK137 := n3_; have HB := n4_; clear n0_ n1_ n2_ n3_ n4_; (try clear hb); (try clear hb2); (try clear hk); (try clear hi)))
           repeat (go_quiet (first | (go_at_call 85; (with_reducible refine (spec_l01Gcd.calls k2 (wrap64 ((wrap64 (t133 * t134)) * t136)) x14_2 t143 _ A106.out).mono ?_); rintro e w111 ⟨rfl, hb⟩; have n0_ := Aside0.mk (blk_below (g := gb130) (o := .cells #[.int .i64 a1_0, .int .i64 a1_1, .int .i64 a1_2] 29 (0, 0)) (by (with_reducible repeat first | apply blk_drewN | apply blk_drew | apply blk_alloc); exact BK130.out) hb); have n1_ := Aside0.mk (blk_below (g := gb131) (o := .cells #[.int .i64 a2_0, .int .i64 a2_1, .int .i64 a2_2] 29 (0, 0)) (by (with_reducible repeat first | apply blk_drewN | apply blk_drew | apply blk_alloc); exact BK131.out) hb); have n2_ := Aside0.mk (blk_below (g := gb132) (o := .cells #[.int .i64 0, .int .i64 0, .int .i64 0, .int .i64 0] 26 (0, 0)) (by (with_reducible repeat first | apply blk_drewN | apply blk_drew | apply blk_alloc); exact BK132.out) hb); have n3_ := Aside0.mk (blk_below (g := gb137) (o := .cells #[.int .i64 (wrap64 ((wrap64 (a2_1 * t133)) * t136)), .int .i64 (wrap64 ((wrap64 ((wrap64 (t135 * t133)) * t134)) - (wrap64 ((wrap64 (a1_1 * a2_1)) * t136)))), .int .i64 (wrap64 ((wrap64 (t133 * t134)) * t136)), .int .i64 (wrap64 ((wrap64 ((wrap64 (-a1_1)) * t134)) * t136))] 98 (0, 0)) (by (with_reducible repeat first | apply blk_drewN | apply blk_drew | apply blk_alloc); exact BK137.out) hb); have n4_ := Aside0.mk (below_step (by repeat (first | (with_reducible first | exact HB.out | apply below_alloc | apply pw_below_drewN | apply below_drew1 | refine below_set ?_ GE130.out | refine below_set ?_ GE131.out | refine below_set ?_ GE132.out | refine below_set ?_ GE137.out) | exact HB.out)) hb); clear BK130; clear BK131; clear BK132; clear BK137; clear HB; have BK130 := n0_; have BK131 := n1_; have BK132 := n2_; have BK137 := n3_; have HB := n4_; clear n0_ n1_ n2_ n3_ n4_; (try clear hb); (try clear hb2); (try clear hk); (try clear hi))); try go_wp2_with (first | (go_at_call 85; (with_reducible refine (spec_l01Gcd.calls k2 (wrap64 ((wrap64 (t133 * t134)) * t136)) x14_2 t143 _ A106.out).mono ?_); rintro e w111 ⟨rfl, hb⟩; have n0_ := Aside0.mk (blk_below (g := gb130) (o := .cells #[.int .i64 a1_0, .int .i64 a1_1, .int .i64 a1_2] 29 (0, 0)) (by (with_reducible repeat first | apply blk_drewN | apply blk_drew | apply blk_alloc); exact BK130.out) hb); have n1_ := Aside0.mk (blk_below (g := gb131) (o := .cells #[.int .i64 a2_0, .int .i64 a2_1, .int .i64 a2_2] 29 (0, 0)) (by (with_reducible repeat first | apply blk_drewN | apply blk_drew | apply blk_alloc); exact BK131.out) hb); have n2_ := Aside0.mk (blk_below (g := gb132) (o := .cells #[.int .i64 0, .int .i64 0, .int .i64 0, .int .i64 0] 26 (0, 0)) (by (with_reducible repeat first | apply blk_drewN | apply blk_drew | apply blk_alloc); exact BK132.out) hb); have n3_ := Aside0.mk (blk_below (g := gb137) (o := .cells #[.int .i64 (wrap64 ((wrap64 (a2_1 * t133)) * t136)), .int .i64 (wrap64 ((wrap64 ((wrap64 (t135 * t133)) * t134)) - (wrap64 ((wrap64 (a1_1 * a2_1)) * t136)))), .int .i64 (wrap64 ((wrap64 (t133 * t134)) * t136)), .int .i64 (wrap64 ((wrap64 ((wrap64 (-a1_1)) * t134)) * t136))] 98 (0, 0)) (by (with_reducible repeat first | apply blk_drewN | apply blk_drew | apply blk_alloc); exact BK137.out) hb); have n4_ := Aside0.mk (below_step (by repeat (first | (with_reducible first | exact HB.out | apply below_alloc | apply pw_below_drewN | apply below_drew1 | refine below_set ?_ GE130.out | refine below_set ?_ GE131.out | refine below_set ?_ GE132.out | refine below_set ?_ GE137.out) | exact HB.out)) hb); clear BK130; clear BK131; clear BK132; clear BK137; clear HB; have BK130 := n0_; have BK131 := n1_; have BK132 := n2_; have BK137 := n3_; have HB := n4_; clear n0_ n1_ n2_ n3_ n4_; (try clear hb); (try clear hb2); (try clear hk); (try clear hi))))
           go_roundg k2
           case measure => have := HJ3.out; have := HK2.out; omega
           case rel => exact ⟨(t143), (wrap64 (2 + 1)), (by first | rfl | (simp; done) | (simp [*]; done) | (simp [wrap64]; done)), (by first | rfl | (simp; done) | (simp [*]; done) | (simp [wrap64]; done)), H', ⟨by have := HJ3.out; have := HK2.out; omega⟩, ⟨by (with_reducible repeat first | apply blk_drewN | apply blk_drew | apply blk_alloc); exact BK130.out⟩, ⟨by (with_reducible repeat first | apply blk_drewN | apply blk_drew | apply blk_alloc); exact BK131.out⟩, ⟨by (with_reducible repeat first | apply blk_drewN | apply blk_drew | apply blk_alloc); exact BK132.out⟩, ⟨by (with_reducible repeat first | apply blk_drewN | apply blk_drew | apply blk_alloc); exact BK137.out⟩, ⟨by repeat (first | (with_reducible first | exact HB.out | apply below_alloc | apply pw_below_drewN | apply below_drew1 | refine below_set ?_ GE130.out | refine below_set ?_ GE131.out | refine below_set ?_ GE132.out | refine below_set ?_ GE137.out) | exact HB.out)⟩⟩
         ·rw [if_neg c93] at H
          have c93b0 : (x15_2 == 2) = false := beq_eq_false_iff_ne.mpr c93
          have c93b1 : (x15_2 != 2) = true := bne_iff_ne.mpr c93
          by_cases c112 : x15_2 = 3
          ·subst c112
           have H1 : (if (wrap64 ((wrap64 ((wrap64 (-a1_1)) * t134)) * t136)) = 0 then (if x14_2 = 0 then (spec_l09Paired.l0 k2 x14_2 (wrap64 (3 + 1)) (wrap64 ((wrap64 (a2_1 * t133)) * t136)) (wrap64 ((wrap64 ((wrap64 (t135 * t133)) * t134)) - (wrap64 ((wrap64 (a1_1 * a2_1)) * t136)))) (wrap64 ((wrap64 (t133 * t134)) * t136)) (wrap64 ((wrap64 ((wrap64 (-a1_1)) * t134)) * t136))) else ((spec_l01Gcd.f k2 (wrap64 ((wrap64 ((wrap64 (-a1_1)) * t134)) * t136)) x14_2).bind fun t144 => (spec_l09Paired.l0 k2 t144 (wrap64 (3 + 1)) (wrap64 ((wrap64 (a2_1 * t133)) * t136)) (wrap64 ((wrap64 ((wrap64 (t135 * t133)) * t134)) - (wrap64 ((wrap64 (a1_1 * a2_1)) * t136)))) (wrap64 ((wrap64 (t133 * t134)) * t136)) (wrap64 ((wrap64 ((wrap64 (-a1_1)) * t134)) * t136))))) else ((spec_l01Gcd.f k2 (wrap64 ((wrap64 ((wrap64 (-a1_1)) * t134)) * t136)) x14_2).bind fun t145 => (spec_l09Paired.l0 k2 t145 (wrap64 (3 + 1)) (wrap64 ((wrap64 (a2_1 * t133)) * t136)) (wrap64 ((wrap64 ((wrap64 (t135 * t133)) * t134)) - (wrap64 ((wrap64 (a1_1 * a2_1)) * t136)))) (wrap64 ((wrap64 (t133 * t134)) * t136)) (wrap64 ((wrap64 ((wrap64 (-a1_1)) * t134)) * t136))))) = some (r1, r2, r3, r4, r5) := by rw [if_pos rfl] at H; exact H
           clear H
           have H := H1
           clear H1
           by_cases c113 : (wrap64 ((wrap64 ((wrap64 (-a1_1)) * t134)) * t136)) = 0
           ·rw [if_pos c113] at H
            have c113b0 : ((wrap64 ((wrap64 ((wrap64 (-a1_1)) * t134)) * t136)) == 0) = true := beq_iff_eq.mpr c113
            have c113b1 : ((wrap64 ((wrap64 ((wrap64 (-a1_1)) * t134)) * t136)) != 0) = false := bne_eq_false_iff_eq.mpr c113
            clear c113
            by_cases c114 : x14_2 = 0
            ·rw [if_pos c114] at H
             have c114b0 : (x14_2 == 0) = true := beq_iff_eq.mpr c114
             have c114b1 : (x14_2 != 0) = false := bne_eq_false_iff_eq.mpr c114
             clear c114
             have H' := Aside0.mk H
             clear H
             have hnb115 := NB137_130.out
             have hnc115 := NB130_137.out
             have hnb116 := NB137_131.out
             have hnc116 := NB131_137.out
             have hnb117 := NB137_132.out
             have hnc117 := NB132_137.out
             have hcz118_0 : wr.cell? ⟨gb137, 0, none⟩ = some (.int .i64 (wrap64 ((wrap64 (a2_1 * t133)) * t136))) := (blk_cell BK137.out 0).trans rfl
             have hcz118_1 : wr.cell? ⟨gb137, 1, none⟩ = some (.int .i64 (wrap64 ((wrap64 ((wrap64 (t135 * t133)) * t134)) - (wrap64 ((wrap64 (a1_1 * a2_1)) * t136))))) := (blk_cell BK137.out 1).trans rfl
             have hcz118_2 : wr.cell? ⟨gb137, 2, none⟩ = some (.int .i64 (wrap64 ((wrap64 (t133 * t134)) * t136))) := (blk_cell BK137.out 2).trans rfl
             have hcz118_3 : wr.cell? ⟨gb137, 3, none⟩ = some (.int .i64 (wrap64 ((wrap64 ((wrap64 (-a1_1)) * t134)) * t136))) := (blk_cell BK137.out 3).trans rfl
             have hfz118_0 := blk_frozen BK137.out 0
             have hfz118_1 := blk_frozen BK137.out 1
             have hfz118_2 := blk_frozen BK137.out 2
             have hfz118_3 := blk_frozen BK137.out 3
             go_wp2
             repeat (go_quiet (fail); try go_wp2)
             go_roundg k2
             case measure => have := HJ3.out; have := HK2.out; omega
             case rel => exact ⟨(x14_2), (wrap64 (3 + 1)), (by first | rfl | (simp; done) | (simp [*]; done) | (simp [wrap64]; done)), (by first | rfl | (simp; done) | (simp [*]; done) | (simp [wrap64]; done)), H', ⟨by have := HJ3.out; have := HK2.out; omega⟩, ⟨by (with_reducible repeat first | apply blk_drewN | apply blk_drew | apply blk_alloc); exact BK130.out⟩, ⟨by (with_reducible repeat first | apply blk_drewN | apply blk_drew | apply blk_alloc); exact BK131.out⟩, ⟨by (with_reducible repeat first | apply blk_drewN | apply blk_drew | apply blk_alloc); exact BK132.out⟩, ⟨by (with_reducible repeat first | apply blk_drewN | apply blk_drew | apply blk_alloc); exact BK137.out⟩, ⟨by repeat (first | (with_reducible first | exact HB.out | apply below_alloc | apply pw_below_drewN | apply below_drew1 | refine below_set ?_ GE130.out | refine below_set ?_ GE131.out | refine below_set ?_ GE132.out | refine below_set ?_ GE137.out) | exact HB.out)⟩⟩
            ·rw [if_neg c114] at H
             have c114b0 : (x14_2 == 0) = false := beq_eq_false_iff_ne.mpr c114
             have c114b1 : (x14_2 != 0) = true := bne_iff_ne.mpr c114
             replace H := Option.bind_eq_some_iff.mp H
             obtain ⟨t144, A1190, H⟩ := H
             replace H : (spec_l09Paired.l0 k2 t144 (wrap64 (3 + 1)) (wrap64 ((wrap64 (a2_1 * t133)) * t136)) (wrap64 ((wrap64 ((wrap64 (t135 * t133)) * t134)) - (wrap64 ((wrap64 (a1_1 * a2_1)) * t136)))) (wrap64 ((wrap64 (t133 * t134)) * t136)) (wrap64 ((wrap64 ((wrap64 (-a1_1)) * t134)) * t136))) = some (r1, r2, r3, r4, r5) := H
             have A119 := Aside0.mk A1190
             clear A1190
             have H' := Aside0.mk H
             clear H
             have hnb120 := NB137_130.out
             have hnc120 := NB130_137.out
             have hnb121 := NB137_131.out
             have hnc121 := NB131_137.out
             have hnb122 := NB137_132.out
             have hnc122 := NB132_137.out
             have hcz123_0 : wr.cell? ⟨gb137, 0, none⟩ = some (.int .i64 (wrap64 ((wrap64 (a2_1 * t133)) * t136))) := (blk_cell BK137.out 0).trans rfl
             have hcz123_1 : wr.cell? ⟨gb137, 1, none⟩ = some (.int .i64 (wrap64 ((wrap64 ((wrap64 (t135 * t133)) * t134)) - (wrap64 ((wrap64 (a1_1 * a2_1)) * t136))))) := (blk_cell BK137.out 1).trans rfl
             have hcz123_2 : wr.cell? ⟨gb137, 2, none⟩ = some (.int .i64 (wrap64 ((wrap64 (t133 * t134)) * t136))) := (blk_cell BK137.out 2).trans rfl
             have hcz123_3 : wr.cell? ⟨gb137, 3, none⟩ = some (.int .i64 (wrap64 ((wrap64 ((wrap64 (-a1_1)) * t134)) * t136))) := (blk_cell BK137.out 3).trans rfl
             have hfz123_0 := blk_frozen BK137.out 0
             have hfz123_1 := blk_frozen BK137.out 1
             have hfz123_2 := blk_frozen BK137.out 2
             have hfz123_3 := blk_frozen BK137.out 3
             go_wp2_with (first | (go_at_call 85; (with_reducible refine (spec_l01Gcd.calls k2 (wrap64 ((wrap64 ((wrap64 (-a1_1)) * t134)) * t136)) x14_2 t144 _ A119.out).mono ?_); rintro e w124 ⟨rfl, hb⟩; have n0_ := Aside0.mk (blk_below (g := gb130) (o := .cells #[.int .i64 a1_0, .int .i64 a1_1, .int .i64 a1_2] 29 (0, 0)) (by (with_reducible repeat first | apply blk_drewN | apply blk_drew | apply blk_alloc); exact BK130.out) hb); have n1_ := Aside0.mk (blk_below (g := gb131) (o := .cells #[.int .i64 a2_0, .int .i64 a2_1, .int .i64 a2_2] 29 (0, 0)) (by (with_reducible repeat first | apply blk_drewN | apply blk_drew | apply blk_alloc); exact BK131.out) hb); have n2_ := Aside0.mk (blk_below (g := gb132) (o := .cells #[.int .i64 0, .int .i64 0, .int .i64 0, .int .i64 0] 26 (0, 0)) (by (with_reducible repeat first | apply blk_drewN | apply blk_drew | apply blk_alloc); exact BK132.out) hb); have n3_ := Aside0.mk (blk_below (g := gb137) (o := .cells #[.int .i64 (wrap64 ((wrap64 (a2_1 * t133)) * t136)), .int .i64 (wrap64 ((wrap64 ((wrap64 (t135 * t133)) * t134)) - (wrap64 ((wrap64 (a1_1 * a2_1)) * t136)))), .int .i64 (wrap64 ((wrap64 (t133 * t134)) * t136)), .int .i64 (wrap64 ((wrap64 ((wrap64 (-a1_1)) * t134)) * t136))] 98 (0, 0)) (by (with_reducible repeat first | apply blk_drewN | apply blk_drew | apply blk_alloc); exact BK137.out) hb); have n4_ := Aside0.mk (below_step (by repeat (first | (with_reducible first | exact HB.out | apply below_alloc | apply pw_below_drewN | apply below_drew1 | refine below_set ?_ GE130.out | refine below_set ?_ GE131.out | refine below_set ?_ GE132.out | refine below_set ?_ GE137.out) | exact HB.out)) hb); clear BK130; clear BK131; clear BK132; clear BK137; clear HB; have BK130 := n0_; have BK131 := n1_; have BK132 := n2_; have BK137 := n3_; have HB := n4_; clear n0_ n1_ n2_ n3_ n4_; (try clear hb); (try clear hb2); (try clear hk); (try clear hi)))
             repeat (go_quiet (first | (go_at_call 85; (with_reducible refine (spec_l01Gcd.calls k2 (wrap64 ((wrap64 ((wrap64 (-a1_1)) * t134)) * t136)) x14_2 t144 _ A119.out).mono ?_); rintro e w124 ⟨rfl, hb⟩; have n0_ := Aside0.mk (blk_below (g := gb130) (o := .cells #[.int .i64 a1_0, .int .i64 a1_1, .int .i64 a1_2] 29 (0, 0)) (by (with_reducible repeat first | apply blk_drewN | apply blk_drew | apply blk_alloc); exact BK130.out) hb); have n1_ := Aside0.mk (blk_below (g := gb131) (o := .cells #[.int .i64 a2_0, .int .i64 a2_1, .int .i64 a2_2] 29 (0, 0)) (by (with_reducible repeat first | apply blk_drewN | apply blk_drew | apply blk_alloc); exact BK131.out) hb); have n2_ := Aside0.mk (blk_below (g := gb132) (o := .cells #[.int .i64 0, .int .i64 0, .int .i64 0, .int .i64 0] 26 (0, 0)) (by (with_reducible repeat first | apply blk_drewN | apply blk_drew | apply blk_alloc); exact BK132.out) hb); have n3_ := Aside0.mk (blk_below (g := gb137) (o := .cells #[.int .i64 (wrap64 ((wrap64 (a2_1 * t133)) * t136)), .int .i64 (wrap64 ((wrap64 ((wrap64 (t135 * t133)) * t134)) - (wrap64 ((wrap64 (a1_1 * a2_1)) * t136)))), .int .i64 (wrap64 ((wrap64 (t133 * t134)) * t136)), .int .i64 (wrap64 ((wrap64 ((wrap64 (-a1_1)) * t134)) * t136))] 98 (0, 0)) (by (with_reducible repeat first | apply blk_drewN | apply blk_drew | apply blk_alloc); exact BK137.out) hb); have n4_ := Aside0.mk (below_step (by repeat (first | (with_reducible first | exact HB.out | apply below_alloc | apply pw_below_drewN | apply below_drew1 | refine below_set ?_ GE130.out | refine below_set ?_ GE131.out | refine below_set ?_ GE132.out | refine below_set ?_ GE137.out) | exact HB.out)) hb); clear BK130; clear BK131; clear BK132; clear BK137; clear HB; have BK130 := n0_; have BK131 := n1_; have BK132 := n2_; have BK137 := n3_; have HB := n4_; clear n0_ n1_ n2_ n3_ n4_; (try clear hb); (try clear hb2); (try clear hk); (try clear hi))); try go_wp2_with (first | (go_at_call 85; (with_reducible refine (spec_l01Gcd.calls k2 (wrap64 ((wrap64 ((wrap64 (-a1_1)) * t134)) * t136)) x14_2 t144 _ A119.out).mono ?_); rintro e w124 ⟨rfl, hb⟩; have n0_ := Aside0.mk (blk_below (g := gb130) (o := .cells #[.int .i64 a1_0, .int .i64 a1_1, .int .i64 a1_2] 29 (0, 0)) (by (with_reducible repeat first | apply blk_drewN | apply blk_drew | apply blk_alloc); exact BK130.out) hb); have n1_ := Aside0.mk (blk_below (g := gb131) (o := .cells #[.int .i64 a2_0, .int .i64 a2_1, .int .i64 a2_2] 29 (0, 0)) (by (with_reducible repeat first | apply blk_drewN | apply blk_drew | apply blk_alloc); exact BK131.out) hb); have n2_ := Aside0.mk (blk_below (g := gb132) (o := .cells #[.int .i64 0, .int .i64 0, .int .i64 0, .int .i64 0] 26 (0, 0)) (by (with_reducible repeat first | apply blk_drewN | apply blk_drew | apply blk_alloc); exact BK132.out) hb); have n3_ := Aside0.mk (blk_below (g := gb137) (o := .cells #[.int .i64 (wrap64 ((wrap64 (a2_1 * t133)) * t136)), .int .i64 (wrap64 ((wrap64 ((wrap64 (t135 * t133)) * t134)) - (wrap64 ((wrap64 (a1_1 * a2_1)) * t136)))), .int .i64 (wrap64 ((wrap64 (t133 * t134)) * t136)), .int .i64 (wrap64 ((wrap64 ((wrap64 (-a1_1)) * t134)) * t136))] 98 (0, 0)) (by (with_reducible repeat first | apply blk_drewN | apply blk_drew | apply blk_alloc); exact BK137.out) hb); have n4_ := Aside0.mk (below_step (by repeat (first | (with_reducible first | exact HB.out | apply below_alloc | apply pw_below_drewN | apply below_drew1 | refine below_set ?_ GE130.out | refine below_set ?_ GE131.out | refine below_set ?_ GE132.out | refine below_set ?_ GE137.out) | exact HB.out)) hb); clear BK130; clear BK131; clear BK132; clear BK137; clear HB; have BK130 := n0_; have BK131 := n1_; have BK132 := n2_; have BK137 := n3_; have HB := n4_; clear n0_ n1_ n2_ n3_ n4_; (try clear hb); (try clear hb2); (try clear hk); (try clear hi))))
             go_roundg k2
             case measure => have := HJ3.out; have := HK2.out; omega
             case rel => exact ⟨(t144), (wrap64 (3 + 1)), (by first | rfl | (simp; done) | (simp [*]; done) | (simp [wrap64]; done)), (by first | rfl | (simp; done) | (simp [*]; done) | (simp [wrap64]; done)), H', ⟨by have := HJ3.out; have := HK2.out; omega⟩, ⟨by (with_reducible repeat first | apply blk_drewN | apply blk_drew | apply blk_alloc); exact BK130.out⟩, ⟨by (with_reducible repeat first | apply blk_drewN | apply blk_drew | apply blk_alloc); exact BK131.out⟩, ⟨by (with_reducible repeat first | apply blk_drewN | apply blk_drew | apply blk_alloc); exact BK132.out⟩, ⟨by (with_reducible repeat first | apply blk_drewN | apply blk_drew | apply blk_alloc); exact BK137.out⟩, ⟨by repeat (first | (with_reducible first | exact HB.out | apply below_alloc | apply pw_below_drewN | apply below_drew1 | refine below_set ?_ GE130.out | refine below_set ?_ GE131.out | refine below_set ?_ GE132.out | refine below_set ?_ GE137.out) | exact HB.out)⟩⟩
           ·rw [if_neg c113] at H
            have c113b0 : ((wrap64 ((wrap64 ((wrap64 (-a1_1)) * t134)) * t136)) == 0) = false := beq_eq_false_iff_ne.mpr c113
            have c113b1 : ((wrap64 ((wrap64 ((wrap64 (-a1_1)) * t134)) * t136)) != 0) = true := bne_iff_ne.mpr c113
            replace H := Option.bind_eq_some_iff.mp H
            obtain ⟨t145, A1250, H⟩ := H
            replace H : (spec_l09Paired.l0 k2 t145 (wrap64 (3 + 1)) (wrap64 ((wrap64 (a2_1 * t133)) * t136)) (wrap64 ((wrap64 ((wrap64 (t135 * t133)) * t134)) - (wrap64 ((wrap64 (a1_1 * a2_1)) * t136)))) (wrap64 ((wrap64 (t133 * t134)) * t136)) (wrap64 ((wrap64 ((wrap64 (-a1_1)) * t134)) * t136))) = some (r1, r2, r3, r4, r5) := H
            have A125 := Aside0.mk A1250
            clear A1250
            have H' := Aside0.mk H
            clear H
            have hnb126 := NB137_130.out
            have hnc126 := NB130_137.out
            have hnb127 := NB137_131.out
            have hnc127 := NB131_137.out
            have hnb128 := NB137_132.out
            have hnc128 := NB132_137.out
            have hcz129_0 : wr.cell? ⟨gb137, 0, none⟩ = some (.int .i64 (wrap64 ((wrap64 (a2_1 * t133)) * t136))) := (blk_cell BK137.out 0).trans rfl
            have hcz129_1 : wr.cell? ⟨gb137, 1, none⟩ = some (.int .i64 (wrap64 ((wrap64 ((wrap64 (t135 * t133)) * t134)) - (wrap64 ((wrap64 (a1_1 * a2_1)) * t136))))) := (blk_cell BK137.out 1).trans rfl
            have hcz129_2 : wr.cell? ⟨gb137, 2, none⟩ = some (.int .i64 (wrap64 ((wrap64 (t133 * t134)) * t136))) := (blk_cell BK137.out 2).trans rfl
            have hcz129_3 : wr.cell? ⟨gb137, 3, none⟩ = some (.int .i64 (wrap64 ((wrap64 ((wrap64 (-a1_1)) * t134)) * t136))) := (blk_cell BK137.out 3).trans rfl
            have hfz129_0 := blk_frozen BK137.out 0
            have hfz129_1 := blk_frozen BK137.out 1
            have hfz129_2 := blk_frozen BK137.out 2
            have hfz129_3 := blk_frozen BK137.out 3
            go_wp2_with (first | (go_at_call 85; (with_reducible refine (spec_l01Gcd.calls k2 (wrap64 ((wrap64 ((wrap64 (-a1_1)) * t134)) * t136)) x14_2 t145 _ A125.out).mono ?_); rintro e w130 ⟨rfl, hb⟩; have n0_ := Aside0.mk (blk_below (g := gb130) (o := .cells #[.int .i64 a1_0, .int .i64 a1_1, .int .i64 a1_2] 29 (0, 0)) (by (with_reducible repeat first | apply blk_drewN | apply blk_drew | apply blk_alloc); exact BK130.out) hb); have n1_ := Aside0.mk (blk_below (g := gb131) (o := .cells #[.int .i64 a2_0, .int .i64 a2_1, .int .i64 a2_2] 29 (0, 0)) (by (with_reducible repeat first | apply blk_drewN | apply blk_drew | apply blk_alloc); exact BK131.out) hb); have n2_ := Aside0.mk (blk_below (g := gb132) (o := .cells #[.int .i64 0, .int .i64 0, .int .i64 0, .int .i64 0] 26 (0, 0)) (by (with_reducible repeat first | apply blk_drewN | apply blk_drew | apply blk_alloc); exact BK132.out) hb); have n3_ := Aside0.mk (blk_below (g := gb137) (o := .cells #[.int .i64 (wrap64 ((wrap64 (a2_1 * t133)) * t136)), .int .i64 (wrap64 ((wrap64 ((wrap64 (t135 * t133)) * t134)) - (wrap64 ((wrap64 (a1_1 * a2_1)) * t136)))), .int .i64 (wrap64 ((wrap64 (t133 * t134)) * t136)), .int .i64 (wrap64 ((wrap64 ((wrap64 (-a1_1)) * t134)) * t136))] 98 (0, 0)) (by (with_reducible repeat first | apply blk_drewN | apply blk_drew | apply blk_alloc); exact BK137.out) hb); have n4_ := Aside0.mk (below_step (by repeat (first | (with_reducible first | exact HB.out | apply below_alloc | apply pw_below_drewN | apply below_drew1 | refine below_set ?_ GE130.out | refine below_set ?_ GE131.out | refine below_set ?_ GE132.out | refine below_set ?_ GE137.out) | exact HB.out)) hb); clear BK130; clear BK131; clear BK132; clear BK137; clear HB; have BK130 := n0_; have BK131 := n1_; have BK132 := n2_; have BK137 := n3_; have HB := n4_; clear n0_ n1_ n2_ n3_ n4_; (try clear hb); (try clear hb2); (try clear hk); (try clear hi)))
            repeat (go_quiet (first | (go_at_call 85; (with_reducible refine (spec_l01Gcd.calls k2 (wrap64 ((wrap64 ((wrap64 (-a1_1)) * t134)) * t136)) x14_2 t145 _ A125.out).mono ?_); rintro e w130 ⟨rfl, hb⟩; have n0_ := Aside0.mk (blk_below (g := gb130) (o := .cells #[.int .i64 a1_0, .int .i64 a1_1, .int .i64 a1_2] 29 (0, 0)) (by (with_reducible repeat first | apply blk_drewN | apply blk_drew | apply blk_alloc); exact BK130.out) hb); have n1_ := Aside0.mk (blk_below (g := gb131) (o := .cells #[.int .i64 a2_0, .int .i64 a2_1, .int .i64 a2_2] 29 (0, 0)) (by (with_reducible repeat first | apply blk_drewN | apply blk_drew | apply blk_alloc); exact BK131.out) hb); have n2_ := Aside0.mk (blk_below (g := gb132) (o := .cells #[.int .i64 0, .int .i64 0, .int .i64 0, .int .i64 0] 26 (0, 0)) (by (with_reducible repeat first | apply blk_drewN | apply blk_drew | apply blk_alloc); exact BK132.out) hb); have n3_ := Aside0.mk (blk_below (g := gb137) (o := .cells #[.int .i64 (wrap64 ((wrap64 (a2_1 * t133)) * t136)), .int .i64 (wrap64 ((wrap64 ((wrap64 (t135 * t133)) * t134)) - (wrap64 ((wrap64 (a1_1 * a2_1)) * t136)))), .int .i64 (wrap64 ((wrap64 (t133 * t134)) * t136)), .int .i64 (wrap64 ((wrap64 ((wrap64 (-a1_1)) * t134)) * t136))] 98 (0, 0)) (by (with_reducible repeat first | apply blk_drewN | apply blk_drew | apply blk_alloc); exact BK137.out) hb); have n4_ := Aside0.mk (below_step (by repeat (first | (with_reducible first | exact HB.out | apply below_alloc | apply pw_below_drewN | apply below_drew1 | refine below_set ?_ GE130.out | refine below_set ?_ GE131.out | refine below_set ?_ GE132.out | refine below_set ?_ GE137.out) | exact HB.out)) hb); clear BK130; clear BK131; clear BK132; clear BK137; clear HB; have BK130 := n0_; have BK131 := n1_; have BK132 := n2_; have BK137 := n3_; have HB := n4_; clear n0_ n1_ n2_ n3_ n4_; (try clear hb); (try clear hb2); (try clear hk); (try clear hi))); try go_wp2_with (first | (go_at_call 85; (with_reducible refine (spec_l01Gcd.calls k2 (wrap64 ((wrap64 ((wrap64 (-a1_1)) * t134)) * t136)) x14_2 t145 _ A125.out).mono ?_); rintro e w130 ⟨rfl, hb⟩; have n0_ := Aside0.mk (blk_below (g := gb130) (o := .cells #[.int .i64 a1_0, .int .i64 a1_1, .int .i64 a1_2] 29 (0, 0)) (by (with_reducible repeat first | apply blk_drewN | apply blk_drew | apply blk_alloc); exact BK130.out) hb); have n1_ := Aside0.mk (blk_below (g := gb131) (o := .cells #[.int .i64 a2_0, .int .i64 a2_1, .int .i64 a2_2] 29 (0, 0)) (by (with_reducible repeat first | apply blk_drewN | apply blk_drew | apply blk_alloc); exact BK131.out) hb); have n2_ := Aside0.mk (blk_below (g := gb132) (o := .cells #[.int .i64 0, .int .i64 0, .int .i64 0, .int .i64 0] 26 (0, 0)) (by (with_reducible repeat first | apply blk_drewN | apply blk_drew | apply blk_alloc); exact BK132.out) hb); have n3_ := Aside0.mk (blk_below (g := gb137) (o := .cells #[.int .i64 (wrap64 ((wrap64 (a2_1 * t133)) * t136)), .int .i64 (wrap64 ((wrap64 ((wrap64 (t135 * t133)) * t134)) - (wrap64 ((wrap64 (a1_1 * a2_1)) * t136)))), .int .i64 (wrap64 ((wrap64 (t133 * t134)) * t136)), .int .i64 (wrap64 ((wrap64 ((wrap64 (-a1_1)) * t134)) * t136))] 98 (0, 0)) (by (with_reducible repeat first | apply blk_drewN | apply blk_drew | apply blk_alloc); exact BK137.out) hb); have n4_ := Aside0.mk (below_step (by repeat (first | (with_reducible first | exact HB.out | apply below_alloc | apply pw_below_drewN | apply below_drew1 | refine below_set ?_ GE130.out | refine below_set ?_ GE131.out | refine below_set ?_ GE132.out | refine below_set ?_ GE137.out) | exact HB.out)) hb); clear BK130; clear BK131; clear BK132; clear BK137; clear HB; have BK130 := n0_; have BK131 := n1_; have BK132 := n2_; have BK137 := n3_; have HB := n4_; clear n0_ n1_ n2_ n3_ n4_; (try clear hb); (try clear hb2); (try clear hk); (try clear hi))))
            go_roundg k2
            case measure => have := HJ3.out; have := HK2.out; omega
            case rel => exact ⟨(t145), (wrap64 (3 + 1)), (by first | rfl | (simp; done) | (simp [*]; done) | (simp [wrap64]; done)), (by first | rfl | (simp; done) | (simp [*]; done) | (simp [wrap64]; done)), H', ⟨by have := HJ3.out; have := HK2.out; omega⟩, ⟨by (with_reducible repeat first | apply blk_drewN | apply blk_drew | apply blk_alloc); exact BK130.out⟩, ⟨by (with_reducible repeat first | apply blk_drewN | apply blk_drew | apply blk_alloc); exact BK131.out⟩, ⟨by (with_reducible repeat first | apply blk_drewN | apply blk_drew | apply blk_alloc); exact BK132.out⟩, ⟨by (with_reducible repeat first | apply blk_drewN | apply blk_drew | apply blk_alloc); exact BK137.out⟩, ⟨by repeat (first | (with_reducible first | exact HB.out | apply below_alloc | apply pw_below_drewN | apply below_drew1 | refine below_set ?_ GE130.out | refine below_set ?_ GE131.out | refine below_set ?_ GE132.out | refine below_set ?_ GE137.out) | exact HB.out)⟩⟩
          ·rw [if_neg c112] at H
           exact absurd H (by simp)
      ·rw [if_neg c54] at H
       have c54b0 : decide (x15_2 < 4) = false := decide_eq_false c54
       clear c54
       have HC131 := Aside0.mk H
       clear H
       go_upto_block 2 with (fail)
       repeat (go_quiet (fail); go_upto_block 2 with (fail))
       go_cut [14] (fun v14 wc => ∃ (kq : Nat) (x14_130 : Int), v14 = .int .i64 x14_130 ∧ Aside0 (spec_l09Paired.j3 kq x14_130 (wrap64 ((wrap64 (a2_1 * t133)) * t136)) (wrap64 ((wrap64 ((wrap64 (t135 * t133)) * t134)) - (wrap64 ((wrap64 (a1_1 * a2_1)) * t136)))) (wrap64 ((wrap64 (t133 * t134)) * t136)) (wrap64 ((wrap64 ((wrap64 (-a1_1)) * t134)) * t136)) = some (r1, r2, r3, r4, r5)) ∧ Aside0 (kq ≤ k2) ∧ Aside0 (wc.heap[gb130]? = some (.cells #[.int .i64 a1_0, .int .i64 a1_1, .int .i64 a1_2] 29 (0, 0))) ∧ Aside0 (wc.heap[gb131]? = some (.cells #[.int .i64 a2_0, .int .i64 a2_1, .int .i64 a2_2] 29 (0, 0))) ∧ Aside0 (wc.heap[gb132]? = some (.cells #[.int .i64 0, .int .i64 0, .int .i64 0, .int .i64 0] 26 (0, 0))) ∧ Aside0 (wc.heap[gb137]? = some (.cells #[.int .i64 (wrap64 ((wrap64 (a2_1 * t133)) * t136)), .int .i64 (wrap64 ((wrap64 ((wrap64 (t135 * t133)) * t134)) - (wrap64 ((wrap64 (a1_1 * a2_1)) * t136)))), .int .i64 (wrap64 ((wrap64 (t133 * t134)) * t136)), .int .i64 (wrap64 ((wrap64 ((wrap64 (-a1_1)) * t134)) * t136))] 98 (0, 0))) ∧ Aside0 (Below w.heap.size w wc))
       case first =>
        have H := HC131.out
        clear HC131
        have H' := Aside0.mk H
        clear H
        go_wp2
        repeat (go_quiet (fail); try go_wp2)
        go_loopg [14, 16] k2 (fun kq v14 v16 w' => ∃ (x14_3 : Int) (x16_3 : Int), v14 = .int .i64 x14_3 ∧ v16 = .int .i64 x16_3 ∧ Aside0 (spec_l09Paired.l1 kq x14_3 x16_3 (wrap64 ((wrap64 (a2_1 * t133)) * t136)) (wrap64 ((wrap64 ((wrap64 (t135 * t133)) * t134)) - (wrap64 ((wrap64 (a1_1 * a2_1)) * t136)))) (wrap64 ((wrap64 (t133 * t134)) * t136)) (wrap64 ((wrap64 ((wrap64 (-a1_1)) * t134)) * t136)) = some (r1, r2, r3, r4, r5)) ∧ Aside0 (kq ≤ k2) ∧ Aside0 (w'.heap[gb130]? = some (.cells #[.int .i64 a1_0, .int .i64 a1_1, .int .i64 a1_2] 29 (0, 0))) ∧ Aside0 (w'.heap[gb131]? = some (.cells #[.int .i64 a2_0, .int .i64 a2_1, .int .i64 a2_2] 29 (0, 0))) ∧ Aside0 (w'.heap[gb132]? = some (.cells #[.int .i64 0, .int .i64 0, .int .i64 0, .int .i64 0] 26 (0, 0))) ∧ Aside0 (w'.heap[gb137]? = some (.cells #[.int .i64 (wrap64 ((wrap64 (a2_1 * t133)) * t136)), .int .i64 (wrap64 ((wrap64 ((wrap64 (t135 * t133)) * t134)) - (wrap64 ((wrap64 (a1_1 * a2_1)) * t136)))), .int .i64 (wrap64 ((wrap64 (t133 * t134)) * t136)), .int .i64 (wrap64 ((wrap64 ((wrap64 (-a1_1)) * t134)) * t136))] 98 (0, 0))) ∧ Aside0 (Below w.heap.size w w'))
        case atStart => exact ⟨(x14_2), (0), (by first | rfl | (simp; done) | (simp [*]; done) | (simp [wrap64]; done)), (by first | rfl | (simp; done) | (simp [*]; done) | (simp [wrap64]; done)), H', ⟨Nat.le_refl _⟩, ⟨by (with_reducible repeat first | apply blk_drewN | apply blk_drew | apply blk_alloc); exact BK130.out⟩, ⟨by (with_reducible repeat first | apply blk_drewN | apply blk_drew | apply blk_alloc); exact BK131.out⟩, ⟨by (with_reducible repeat first | apply blk_drewN | apply blk_drew | apply blk_alloc); exact BK132.out⟩, ⟨by (with_reducible repeat first | apply blk_drewN | apply blk_drew | apply blk_alloc); exact BK137.out⟩, ⟨by repeat (first | (with_reducible first | exact HB.out | apply below_alloc | apply pw_below_drewN | apply below_drew1 | refine below_set ?_ GE130.out | refine below_set ?_ GE131.out | refine below_set ?_ GE132.out | refine below_set ?_ GE137.out) | exact HB.out)⟩⟩
        case round =>
         clear H'
         try clear c1
         try clear c2
         try clear p2
         try clear c3
         try clear c4
         try clear c5
         try clear c6
         try clear p6
         try clear c7
         try clear c8
         try clear c9
         try clear c10
         try clear c11
         try clear c12
         try clear c13
         try clear c13b0
         try clear c14
         try clear c15
         try clear c17
         try clear c17b0
         try clear c18
         try clear c19
         try clear c21
         try clear c23
         try clear c23b0
         try clear c23b1
         try clear c24
         try clear c25
         try clear c27
         try clear c29
         try clear c30
         try clear c32
         try clear c34
         try clear c35
         try clear c36
         try clear c44
         try clear c45
         try clear c47
         try clear c50
         try clear c51
         try clear c52
         try clear c54
         try clear c54b0
         try clear c55
         try clear c55b0
         try clear c55b1
         try clear c56
         try clear c56b0
         try clear c56b1
         try clear c57
         try clear c57b0
         try clear c57b1
         try clear c58
         try clear c59
         try clear c60
         try clear c63
         try clear c64
         try clear p64
         try clear c65
         try clear c69
         try clear c70
         try clear c71
         try clear c74
         try clear c74b0
         try clear c74b1
         try clear c75
         try clear c75b0
         try clear c75b1
         try clear c76
         try clear c76b0
         try clear c76b1
         try clear c77
         try clear c78
         try clear c79
         try clear c82
         try clear c83
         try clear c84
         try clear c88
         try clear c89
         try clear c90
         try clear c93
         try clear c93b0
         try clear c93b1
         try clear c94
         try clear c94b0
         try clear c94b1
         try clear c95
         try clear c95b0
         try clear c95b1
         try clear c96
         try clear c97
         try clear c98
         try clear c101
         try clear c102
         try clear c103
         try clear c107
         try clear c108
         try clear c109
         try clear c112
         try clear c113
         try clear c113b0
         try clear c113b1
         try clear c114
         try clear c114b0
         try clear c114b1
         try clear c115
         try clear c116
         try clear c117
         try clear c120
         try clear c121
         try clear c122
         try clear c126
         try clear c127
         try clear c128
         try clear hcz104_0
         try clear hcz104_1
         try clear hcz104_2
         try clear hcz104_3
         try clear hcz10_0
         try clear hcz10_1
         try clear hcz10_2
         try clear hcz110_0
         try clear hcz110_1
         try clear hcz110_2
         try clear hcz110_3
         try clear hcz118_0
         try clear hcz118_1
         try clear hcz118_2
         try clear hcz118_3
         try clear hcz123_0
         try clear hcz123_1
         try clear hcz123_2
         try clear hcz123_3
         try clear hcz129_0
         try clear hcz129_1
         try clear hcz129_2
         try clear hcz129_3
         try clear hcz12_0
         try clear hcz12_1
         try clear hcz12_2
         try clear hcz16_0
         try clear hcz16_1
         try clear hcz16_2
         try clear hcz20_0
         try clear hcz20_1
         try clear hcz20_2
         try clear hcz22_0
         try clear hcz22_1
         try clear hcz22_2
         try clear hcz26_0
         try clear hcz26_1
         try clear hcz26_2
         try clear hcz28_0
         try clear hcz28_1
         try clear hcz28_2
         try clear hcz31_0
         try clear hcz31_1
         try clear hcz31_2
         try clear hcz33_0
         try clear hcz33_1
         try clear hcz33_2
         try clear hcz37_0
         try clear hcz37_1
         try clear hcz37_2
         try clear hcz37_3
         try clear hcz46_0
         try clear hcz46_1
         try clear hcz46_2
         try clear hcz48_0
         try clear hcz48_1
         try clear hcz48_2
         try clear hcz53_0
         try clear hcz53_1
         try clear hcz53_2
         try clear hcz53_3
         try clear hcz61_0
         try clear hcz61_1
         try clear hcz61_2
         try clear hcz61_3
         try clear hcz66_0
         try clear hcz66_1
         try clear hcz66_2
         try clear hcz66_3
         try clear hcz72_0
         try clear hcz72_1
         try clear hcz72_2
         try clear hcz72_3
         try clear hcz80_0
         try clear hcz80_1
         try clear hcz80_2
         try clear hcz80_3
         try clear hcz85_0
         try clear hcz85_1
         try clear hcz85_2
         try clear hcz85_3
         try clear hcz91_0
         try clear hcz91_1
         try clear hcz91_2
         try clear hcz91_3
         try clear hcz99_0
         try clear hcz99_1
         try clear hcz99_2
         try clear hcz99_3
         try clear hfz104_0
         try clear hfz104_1
         try clear hfz104_2
         try clear hfz104_3
         try clear hfz10_0
         try clear hfz10_1
         try clear hfz10_2
         try clear hfz110_0
         try clear hfz110_1
         try clear hfz110_2
         try clear hfz110_3
         try clear hfz118_0
         try clear hfz118_1
         try clear hfz118_2
         try clear hfz118_3
         try clear hfz123_0
         try clear hfz123_1
         try clear hfz123_2
         try clear hfz123_3
         try clear hfz129_0
         try clear hfz129_1
         try clear hfz129_2
         try clear hfz129_3
         try clear hfz12_0
         try clear hfz12_1
         try clear hfz12_2
         try clear hfz16_0
         try clear hfz16_1
         try clear hfz16_2
         try clear hfz20_0
         try clear hfz20_1
         try clear hfz20_2
         try clear hfz22_0
         try clear hfz22_1
         try clear hfz22_2
         try clear hfz26_0
         try clear hfz26_1
         try clear hfz26_2
         try clear hfz28_0
         try clear hfz28_1
         try clear hfz28_2
         try clear hfz31_0
         try clear hfz31_1
         try clear hfz31_2
         try clear hfz33_0
         try clear hfz33_1
         try clear hfz33_2
         try clear hfz37_0
         try clear hfz37_1
         try clear hfz37_2
         try clear hfz37_3
         try clear hfz46_0
         try clear hfz46_1
         try clear hfz46_2
         try clear hfz48_0
         try clear hfz48_1
         try clear hfz48_2
         try clear hfz53_0
         try clear hfz53_1
         try clear hfz53_2
         try clear hfz53_3
         try clear hfz61_0
         try clear hfz61_1
         try clear hfz61_2
         try clear hfz61_3
         try clear hfz66_0
         try clear hfz66_1
         try clear hfz66_2
         try clear hfz66_3
         try clear hfz72_0
         try clear hfz72_1
         try clear hfz72_2
         try clear hfz72_3
         try clear hfz80_0
         try clear hfz80_1
         try clear hfz80_2
         try clear hfz80_3
         try clear hfz85_0
         try clear hfz85_1
         try clear hfz85_2
         try clear hfz85_3
         try clear hfz91_0
         try clear hfz91_1
         try clear hfz91_2
         try clear hfz91_3
         try clear hfz99_0
         try clear hfz99_1
         try clear hfz99_2
         try clear hfz99_3
         try clear p2
         try clear p6
         obtain ⟨x14_3, x16_3, rfl, rfl, HA, HK3, BK130, BK131, BK132, BK137, HB⟩ := hrel
         cases gk with
         | zero => exact absurd HA.out (by simp [spec_l09Paired.l1])
         | succ k3 =>
          have H := HA.out
          clear HA
          simp only [spec_l09Paired.l1] at H
          by_cases c132 : x16_3 < 4
          ·rw [if_pos c132] at H
           have c132b0 : decide (x16_3 < 4) = true := decide_eq_true c132
           clear c132
           (first | rw [c132b0] | (simp only [i64_w, i32_w]; rw [c132b0]) | skip)
           by_cases c133 : x16_3 = 0
           ·subst c133
            have H1 : (if (wrap64 ((wrap64 (a2_1 * t133)) * t136)) = 0 then (spec_l09Paired.l1 k3 x14_3 (wrap64 (0 + 1)) (wrap64 ((wrap64 (a2_1 * t133)) * t136)) (wrap64 ((wrap64 ((wrap64 (t135 * t133)) * t134)) - (wrap64 ((wrap64 (a1_1 * a2_1)) * t136)))) (wrap64 ((wrap64 (t133 * t134)) * t136)) (wrap64 ((wrap64 ((wrap64 (-a1_1)) * t134)) * t136))) else (if (wrap64 ((wrap64 (a2_1 * t133)) * t136)) < 0 then (spec_l09Paired.j3 k3 (wrap64 (-x14_3)) (wrap64 ((wrap64 (a2_1 * t133)) * t136)) (wrap64 ((wrap64 ((wrap64 (t135 * t133)) * t134)) - (wrap64 ((wrap64 (a1_1 * a2_1)) * t136)))) (wrap64 ((wrap64 (t133 * t134)) * t136)) (wrap64 ((wrap64 ((wrap64 (-a1_1)) * t134)) * t136))) else (spec_l09Paired.j3 k3 x14_3 (wrap64 ((wrap64 (a2_1 * t133)) * t136)) (wrap64 ((wrap64 ((wrap64 (t135 * t133)) * t134)) - (wrap64 ((wrap64 (a1_1 * a2_1)) * t136)))) (wrap64 ((wrap64 (t133 * t134)) * t136)) (wrap64 ((wrap64 ((wrap64 (-a1_1)) * t134)) * t136))))) = some (r1, r2, r3, r4, r5) := by rw [if_pos rfl] at H; exact H
            clear H
            have H := H1
            clear H1
            by_cases c134 : (wrap64 ((wrap64 (a2_1 * t133)) * t136)) = 0
            ·rw [if_pos c134] at H
             have c134b0 : ((wrap64 ((wrap64 (a2_1 * t133)) * t136)) == 0) = true := beq_iff_eq.mpr c134
             have c134b1 : ((wrap64 ((wrap64 (a2_1 * t133)) * t136)) != 0) = false := bne_eq_false_iff_eq.mpr c134
             clear c134
             have H' := Aside0.mk H
             clear H
             have hnb135 := NB137_130.out
             have hnc135 := NB130_137.out
             have hnb136 := NB137_131.out
             have hnc136 := NB131_137.out
             have hnb137 := NB137_132.out
             have hnc137 := NB132_137.out
             have hcz138_0 : wr.cell? ⟨gb137, 0, none⟩ = some (.int .i64 (wrap64 ((wrap64 (a2_1 * t133)) * t136))) := (blk_cell BK137.out 0).trans rfl
             have hcz138_1 : wr.cell? ⟨gb137, 1, none⟩ = some (.int .i64 (wrap64 ((wrap64 ((wrap64 (t135 * t133)) * t134)) - (wrap64 ((wrap64 (a1_1 * a2_1)) * t136))))) := (blk_cell BK137.out 1).trans rfl
             have hcz138_2 : wr.cell? ⟨gb137, 2, none⟩ = some (.int .i64 (wrap64 ((wrap64 (t133 * t134)) * t136))) := (blk_cell BK137.out 2).trans rfl
             have hcz138_3 : wr.cell? ⟨gb137, 3, none⟩ = some (.int .i64 (wrap64 ((wrap64 ((wrap64 (-a1_1)) * t134)) * t136))) := (blk_cell BK137.out 3).trans rfl
             have hfz138_0 := blk_frozen BK137.out 0
             have hfz138_1 := blk_frozen BK137.out 1
             have hfz138_2 := blk_frozen BK137.out 2
             have hfz138_3 := blk_frozen BK137.out 3
             go_wp2
             repeat (go_quiet (fail); try go_wp2)
             go_roundg k3
             case measure => have := HJ3.out; have := HK2.out; have := HK3.out; omega
             case rel => exact ⟨(x14_3), (wrap64 (0 + 1)), (by first | rfl | (simp; done) | (simp [*]; done) | (simp [wrap64]; done)), (by first | rfl | (simp; done) | (simp [*]; done) | (simp [wrap64]; done)), H', ⟨by have := HJ3.out; have := HK2.out; have := HK3.out; omega⟩, ⟨by (with_reducible repeat first | apply blk_drewN | apply blk_drew | apply blk_alloc); exact BK130.out⟩, ⟨by (with_reducible repeat first | apply blk_drewN | apply blk_drew | apply blk_alloc); exact BK131.out⟩, ⟨by (with_reducible repeat first | apply blk_drewN | apply blk_drew | apply blk_alloc); exact BK132.out⟩, ⟨by (with_reducible repeat first | apply blk_drewN | apply blk_drew | apply blk_alloc); exact BK137.out⟩, ⟨by repeat (first | (with_reducible first | exact HB.out | apply below_alloc | apply pw_below_drewN | apply below_drew1 | refine below_set ?_ GE130.out | refine below_set ?_ GE131.out | refine below_set ?_ GE132.out | refine below_set ?_ GE137.out) | exact HB.out)⟩⟩
            ·rw [if_neg c134] at H
             have c134b0 : ((wrap64 ((wrap64 (a2_1 * t133)) * t136)) == 0) = false := beq_eq_false_iff_ne.mpr c134
             have c134b1 : ((wrap64 ((wrap64 (a2_1 * t133)) * t136)) != 0) = true := bne_iff_ne.mpr c134
             by_cases c139 : (wrap64 ((wrap64 (a2_1 * t133)) * t136)) < 0
             ·rw [if_pos c139] at H
              have c139b0 : decide ((wrap64 ((wrap64 (a2_1 * t133)) * t136)) < 0) = true := decide_eq_true c139
              clear c139
              have H' := Aside0.mk H
              clear H
              have hnb140 := NB137_130.out
              have hnc140 := NB130_137.out
              have hnb141 := NB137_131.out
              have hnc141 := NB131_137.out
              have hnb142 := NB137_132.out
              have hnc142 := NB132_137.out
              have hcz143_0 : wr.cell? ⟨gb137, 0, none⟩ = some (.int .i64 (wrap64 ((wrap64 (a2_1 * t133)) * t136))) := (blk_cell BK137.out 0).trans rfl
              have hcz143_1 : wr.cell? ⟨gb137, 1, none⟩ = some (.int .i64 (wrap64 ((wrap64 ((wrap64 (t135 * t133)) * t134)) - (wrap64 ((wrap64 (a1_1 * a2_1)) * t136))))) := (blk_cell BK137.out 1).trans rfl
              have hcz143_2 : wr.cell? ⟨gb137, 2, none⟩ = some (.int .i64 (wrap64 ((wrap64 (t133 * t134)) * t136))) := (blk_cell BK137.out 2).trans rfl
              have hcz143_3 : wr.cell? ⟨gb137, 3, none⟩ = some (.int .i64 (wrap64 ((wrap64 ((wrap64 (-a1_1)) * t134)) * t136))) := (blk_cell BK137.out 3).trans rfl
              have hfz143_0 := blk_frozen BK137.out 0
              have hfz143_1 := blk_frozen BK137.out 1
              have hfz143_2 := blk_frozen BK137.out 2
              have hfz143_3 := blk_frozen BK137.out 3
              go_wp2
              repeat (go_quiet (fail); try go_wp2)
              go_meet
              case rel => exact ⟨_, (wrap64 (-x14_3)), (by first | rfl | (simp; done) | (simp [*]; done) | (simp [wrap64]; done)), H', ⟨by have := HJ3.out; have := HK2.out; have := HK3.out; first | omega | exact Nat.le_refl _⟩, ⟨by (with_reducible repeat first | apply blk_drewN | apply blk_drew | apply blk_alloc); exact BK130.out⟩, ⟨by (with_reducible repeat first | apply blk_drewN | apply blk_drew | apply blk_alloc); exact BK131.out⟩, ⟨by (with_reducible repeat first | apply blk_drewN | apply blk_drew | apply blk_alloc); exact BK132.out⟩, ⟨by (with_reducible repeat first | apply blk_drewN | apply blk_drew | apply blk_alloc); exact BK137.out⟩, ⟨by repeat (first | (with_reducible first | exact HB.out | apply below_alloc | apply pw_below_drewN | apply below_drew1 | refine below_set ?_ GE130.out | refine below_set ?_ GE131.out | refine below_set ?_ GE132.out | refine below_set ?_ GE137.out) | exact HB.out)⟩⟩
             ·rw [if_neg c139] at H
              have c139b0 : decide ((wrap64 ((wrap64 (a2_1 * t133)) * t136)) < 0) = false := decide_eq_false c139
              clear c139
              have H' := Aside0.mk H
              clear H
              have hnb144 := NB137_130.out
              have hnc144 := NB130_137.out
              have hnb145 := NB137_131.out
              have hnc145 := NB131_137.out
              have hnb146 := NB137_132.out
              have hnc146 := NB132_137.out
              have hcz147_0 : wr.cell? ⟨gb137, 0, none⟩ = some (.int .i64 (wrap64 ((wrap64 (a2_1 * t133)) * t136))) := (blk_cell BK137.out 0).trans rfl
              have hcz147_1 : wr.cell? ⟨gb137, 1, none⟩ = some (.int .i64 (wrap64 ((wrap64 ((wrap64 (t135 * t133)) * t134)) - (wrap64 ((wrap64 (a1_1 * a2_1)) * t136))))) := (blk_cell BK137.out 1).trans rfl
              have hcz147_2 : wr.cell? ⟨gb137, 2, none⟩ = some (.int .i64 (wrap64 ((wrap64 (t133 * t134)) * t136))) := (blk_cell BK137.out 2).trans rfl
              have hcz147_3 : wr.cell? ⟨gb137, 3, none⟩ = some (.int .i64 (wrap64 ((wrap64 ((wrap64 (-a1_1)) * t134)) * t136))) := (blk_cell BK137.out 3).trans rfl
              have hfz147_0 := blk_frozen BK137.out 0
              have hfz147_1 := blk_frozen BK137.out 1
              have hfz147_2 := blk_frozen BK137.out 2
              have hfz147_3 := blk_frozen BK137.out 3
              go_wp2
              repeat (go_quiet (fail); try go_wp2)
              go_meet
              case rel => exact ⟨_, (x14_3), (by first | rfl | (simp; done) | (simp [*]; done) | (simp [wrap64]; done)), H', ⟨by have := HJ3.out; have := HK2.out; have := HK3.out; first | omega | exact Nat.le_refl _⟩, ⟨by (with_reducible repeat first | apply blk_drewN | apply blk_drew | apply blk_alloc); exact BK130.out⟩, ⟨by (with_reducible repeat first | apply blk_drewN | apply blk_drew | apply blk_alloc); exact BK131.out⟩, ⟨by (with_reducible repeat first | apply blk_drewN | apply blk_drew | apply blk_alloc); exact BK132.out⟩, ⟨by (with_reducible repeat first | apply blk_drewN | apply blk_drew | apply blk_alloc); exact BK137.out⟩, ⟨by repeat (first | (with_reducible first | exact HB.out | apply below_alloc | apply pw_below_drewN | apply below_drew1 | refine below_set ?_ GE130.out | refine below_set ?_ GE131.out | refine below_set ?_ GE132.out | refine below_set ?_ GE137.out) | exact HB.out)⟩⟩
           ·rw [if_neg c133] at H
            have c133b0 : (x16_3 == 0) = false := beq_eq_false_iff_ne.mpr c133
            have c133b1 : (x16_3 != 0) = true := bne_iff_ne.mpr c133
            by_cases c148 : x16_3 = 1
            ·subst c148
             have H1 : (if (wrap64 ((wrap64 ((wrap64 (t135 * t133)) * t134)) - (wrap64 ((wrap64 (a1_1 * a2_1)) * t136)))) = 0 then (spec_l09Paired.l1 k3 x14_3 (wrap64 (1 + 1)) (wrap64 ((wrap64 (a2_1 * t133)) * t136)) (wrap64 ((wrap64 ((wrap64 (t135 * t133)) * t134)) - (wrap64 ((wrap64 (a1_1 * a2_1)) * t136)))) (wrap64 ((wrap64 (t133 * t134)) * t136)) (wrap64 ((wrap64 ((wrap64 (-a1_1)) * t134)) * t136))) else (if (wrap64 ((wrap64 ((wrap64 (t135 * t133)) * t134)) - (wrap64 ((wrap64 (a1_1 * a2_1)) * t136)))) < 0 then (spec_l09Paired.j3 k3 (wrap64 (-x14_3)) (wrap64 ((wrap64 (a2_1 * t133)) * t136)) (wrap64 ((wrap64 ((wrap64 (t135 * t133)) * t134)) - (wrap64 ((wrap64 (a1_1 * a2_1)) * t136)))) (wrap64 ((wrap64 (t133 * t134)) * t136)) (wrap64 ((wrap64 ((wrap64 (-a1_1)) * t134)) * t136))) else (spec_l09Paired.j3 k3 x14_3 (wrap64 ((wrap64 (a2_1 * t133)) * t136)) (wrap64 ((wrap64 ((wrap64 (t135 * t133)) * t134)) - (wrap64 ((wrap64 (a1_1 * a2_1)) * t136)))) (wrap64 ((wrap64 (t133 * t134)) * t136)) (wrap64 ((wrap64 ((wrap64 (-a1_1)) * t134)) * t136))))) = some (r1, r2, r3, r4, r5) := by rw [if_pos rfl] at H; exact H
             clear H
             have H := H1
             clear H1
             by_cases c149 : (wrap64 ((wrap64 ((wrap64 (t135 * t133)) * t134)) - (wrap64 ((wrap64 (a1_1 * a2_1)) * t136)))) = 0
             ·rw [if_pos c149] at H
              have c149b0 : ((wrap64 ((wrap64 ((wrap64 (t135 * t133)) * t134)) - (wrap64 ((wrap64 (a1_1 * a2_1)) * t136)))) == 0) = true := beq_iff_eq.mpr c149
              have c149b1 : ((wrap64 ((wrap64 ((wrap64 (t135 * t133)) * t134)) - (wrap64 ((wrap64 (a1_1 * a2_1)) * t136)))) != 0) = false := bne_eq_false_iff_eq.mpr c149
              clear c149
              have H' := Aside0.mk H
              clear H
              have hnb150 := NB137_130.out
              have hnc150 := NB130_137.out
              have hnb151 := NB137_131.out
              have hnc151 := NB131_137.out
              have hnb152 := NB137_132.out
              have hnc152 := NB132_137.out
              have hcz153_0 : wr.cell? ⟨gb137, 0, none⟩ = some (.int .i64 (wrap64 ((wrap64 (a2_1 * t133)) * t136))) := (blk_cell BK137.out 0).trans rfl
              have hcz153_1 : wr.cell? ⟨gb137, 1, none⟩ = some (.int .i64 (wrap64 ((wrap64 ((wrap64 (t135 * t133)) * t134)) - (wrap64 ((wrap64 (a1_1 * a2_1)) * t136))))) := (blk_cell BK137.out 1).trans rfl
              have hcz153_2 : wr.cell? ⟨gb137, 2, none⟩ = some (.int .i64 (wrap64 ((wrap64 (t133 * t134)) * t136))) := (blk_cell BK137.out 2).trans rfl
              have hcz153_3 : wr.cell? ⟨gb137, 3, none⟩ = some (.int .i64 (wrap64 ((wrap64 ((wrap64 (-a1_1)) * t134)) * t136))) := (blk_cell BK137.out 3).trans rfl
              have hfz153_0 := blk_frozen BK137.out 0
              have hfz153_1 := blk_frozen BK137.out 1
              have hfz153_2 := blk_frozen BK137.out 2
              have hfz153_3 := blk_frozen BK137.out 3
              go_wp2
              repeat (go_quiet (fail); try go_wp2)
              go_roundg k3
              case measure => have := HJ3.out; have := HK2.out; have := HK3.out; omega
              case rel => exact ⟨(x14_3), (wrap64 (1 + 1)), (by first | rfl | (simp; done) | (simp [*]; done) | (simp [wrap64]; done)), (by first | rfl | (simp; done) | (simp [*]; done) | (simp [wrap64]; done)), H', ⟨by have := HJ3.out; have := HK2.out; have := HK3.out; omega⟩, ⟨by (with_reducible repeat first | apply blk_drewN | apply blk_drew | apply blk_alloc); exact BK130.out⟩, ⟨by (with_reducible repeat first | apply blk_drewN | apply blk_drew | apply blk_alloc); exact BK131.out⟩, ⟨by (with_reducible repeat first | apply blk_drewN | apply blk_drew | apply blk_alloc); exact BK132.out⟩, ⟨by (with_reducible repeat first | apply blk_drewN | apply blk_drew | apply blk_alloc); exact BK137.out⟩, ⟨by repeat (first | (with_reducible first | exact HB.out | apply below_alloc | apply pw_below_drewN | apply below_drew1 | refine below_set ?_ GE130.out | refine below_set ?_ GE131.out | refine below_set ?_ GE132.out | refine below_set ?_ GE137.out) | exact HB.out)⟩⟩
             ·rw [if_neg c149] at H
              have c149b0 : ((wrap64 ((wrap64 ((wrap64 (t135 * t133)) * t134)) - (wrap64 ((wrap64 (a1_1 * a2_1)) * t136)))) == 0) = false := beq_eq_false_iff_ne.mpr c149
              have c149b1 : ((wrap64 ((wrap64 ((wrap64 (t135 * t133)) * t134)) - (wrap64 ((wrap64 (a1_1 * a2_1)) * t136)))) != 0) = true := bne_iff_ne.mpr c149
              by_cases c154 : (wrap64 ((wrap64 ((wrap64 (t135 * t133)) * t134)) - (wrap64 ((wrap64 (a1_1 * a2_1)) * t136)))) < 0
              ·rw [if_pos c154] at H
               have c154b0 : decide ((wrap64 ((wrap64 ((wrap64 (t135 * t133)) * t134)) - (wrap64 ((wrap64 (a1_1 * a2_1)) * t136)))) < 0) = true := decide_eq_true c154
               clear c154
               have H' := Aside0.mk H
               clear H
               have hnb155 := NB137_130.out
               have hnc155 := NB130_137.out
               have hnb156 := NB137_131.out
               have hnc156 := NB131_137.out
               have hnb157 := NB137_132.out
               have hnc157 := NB132_137.out
               have hcz158_0 : wr.cell? ⟨gb137, 0, none⟩ = some (.int .i64 (wrap64 ((wrap64 (a2_1 * t133)) * t136))) := (blk_cell BK137.out 0).trans rfl
               have hcz158_1 : wr.cell? ⟨gb137, 1, none⟩ = some (.int .i64 (wrap64 ((wrap64 ((wrap64 (t135 * t133)) * t134)) - (wrap64 ((wrap64 (a1_1 * a2_1)) * t136))))) := (blk_cell BK137.out 1).trans rfl
               have hcz158_2 : wr.cell? ⟨gb137, 2, none⟩ = some (.int .i64 (wrap64 ((wrap64 (t133 * t134)) * t136))) := (blk_cell BK137.out 2).trans rfl
               have hcz158_3 : wr.cell? ⟨gb137, 3, none⟩ = some (.int .i64 (wrap64 ((wrap64 ((wrap64 (-a1_1)) * t134)) * t136))) := (blk_cell BK137.out 3).trans rfl
               have hfz158_0 := blk_frozen BK137.out 0
               have hfz158_1 := blk_frozen BK137.out 1
               have hfz158_2 := blk_frozen BK137.out 2
               have hfz158_3 := blk_frozen BK137.out 3
               go_wp2
               repeat (go_quiet (fail); try go_wp2)
               go_meet
               case rel => exact ⟨_, (wrap64 (-x14_3)), (by first | rfl | (simp; done) | (simp [*]; done) | (simp [wrap64]; done)), H', ⟨by have := HJ3.out; have := HK2.out; have := HK3.out; first | omega | exact Nat.le_refl _⟩, ⟨by (with_reducible repeat first | apply blk_drewN | apply blk_drew | apply blk_alloc); exact BK130.out⟩, ⟨by (with_reducible repeat first | apply blk_drewN | apply blk_drew | apply blk_alloc); exact BK131.out⟩, ⟨by (with_reducible repeat first | apply blk_drewN | apply blk_drew | apply blk_alloc); exact BK132.out⟩, ⟨by (with_reducible repeat first | apply blk_drewN | apply blk_drew | apply blk_alloc); exact BK137.out⟩, ⟨by repeat (first | (with_reducible first | exact HB.out | apply below_alloc | apply pw_below_drewN | apply below_drew1 | refine below_set ?_ GE130.out | refine below_set ?_ GE131.out | refine below_set ?_ GE132.out | refine below_set ?_ GE137.out) | exact HB.out)⟩⟩
              ·rw [if_neg c154] at H
               have c154b0 : decide ((wrap64 ((wrap64 ((wrap64 (t135 * t133)) * t134)) - (wrap64 ((wrap64 (a1_1 * a2_1)) * t136)))) < 0) = false := decide_eq_false c154
               clear c154
               have H' := Aside0.mk H
               clear H
               have hnb159 := NB137_130.out
               have hnc159 := NB130_137.out
               have hnb160 := NB137_131.out
               have hnc160 := NB131_137.out
               have hnb161 := NB137_132.out
               have hnc161 := NB132_137.out
               have hcz162_0 : wr.cell? ⟨gb137, 0, none⟩ = some (.int .i64 (wrap64 ((wrap64 (a2_1 * t133)) * t136))) := (blk_cell BK137.out 0).trans rfl
               have hcz162_1 : wr.cell? ⟨gb137, 1, none⟩ = some (.int .i64 (wrap64 ((wrap64 ((wrap64 (t135 * t133)) * t134)) - (wrap64 ((wrap64 (a1_1 * a2_1)) * t136))))) := (blk_cell BK137.out 1).trans rfl
               have hcz162_2 : wr.cell? ⟨gb137, 2, none⟩ = some (.int .i64 (wrap64 ((wrap64 (t133 * t134)) * t136))) := (blk_cell BK137.out 2).trans rfl
               have hcz162_3 : wr.cell? ⟨gb137, 3, none⟩ = some (.int .i64 (wrap64 ((wrap64 ((wrap64 (-a1_1)) * t134)) * t136))) := (blk_cell BK137.out 3).trans rfl
               have hfz162_0 := blk_frozen BK137.out 0
               have hfz162_1 := blk_frozen BK137.out 1
               have hfz162_2 := blk_frozen BK137.out 2
               have hfz162_3 := blk_frozen BK137.out 3
               go_wp2
               repeat (go_quiet (fail); try go_wp2)
               go_meet
               case rel => exact ⟨_, (x14_3), (by first | rfl | (simp; done) | (simp [*]; done) | (simp [wrap64]; done)), H', ⟨by have := HJ3.out; have := HK2.out; have := HK3.out; first | omega | exact Nat.le_refl _⟩, ⟨by (with_reducible repeat first | apply blk_drewN | apply blk_drew | apply blk_alloc); exact BK130.out⟩, ⟨by (with_reducible repeat first | apply blk_drewN | apply blk_drew | apply blk_alloc); exact BK131.out⟩, ⟨by (with_reducible repeat first | apply blk_drewN | apply blk_drew | apply blk_alloc); exact BK132.out⟩, ⟨by (with_reducible repeat first | apply blk_drewN | apply blk_drew | apply blk_alloc); exact BK137.out⟩, ⟨by repeat (first | (with_reducible first | exact HB.out | apply below_alloc | apply pw_below_drewN | apply below_drew1 | refine below_set ?_ GE130.out | refine below_set ?_ GE131.out | refine below_set ?_ GE132.out | refine below_set ?_ GE137.out) | exact HB.out)⟩⟩
            ·rw [if_neg c148] at H
             have c148b0 : (x16_3 == 1) = false := beq_eq_false_iff_ne.mpr c148
             have c148b1 : (x16_3 != 1) = true := bne_iff_ne.mpr c148
             by_cases c163 : x16_3 = 2
             ·subst c163
              have H1 : (if (wrap64 ((wrap64 (t133 * t134)) * t136)) = 0 then (spec_l09Paired.l1 k3 x14_3 (wrap64 (2 + 1)) (wrap64 ((wrap64 (a2_1 * t133)) * t136)) (wrap64 ((wrap64 ((wrap64 (t135 * t133)) * t134)) - (wrap64 ((wrap64 (a1_1 * a2_1)) * t136)))) (wrap64 ((wrap64 (t133 * t134)) * t136)) (wrap64 ((wrap64 ((wrap64 (-a1_1)) * t134)) * t136))) else (if (wrap64 ((wrap64 (t133 * t134)) * t136)) < 0 then (spec_l09Paired.j3 k3 (wrap64 (-x14_3)) (wrap64 ((wrap64 (a2_1 * t133)) * t136)) (wrap64 ((wrap64 ((wrap64 (t135 * t133)) * t134)) - (wrap64 ((wrap64 (a1_1 * a2_1)) * t136)))) (wrap64 ((wrap64 (t133 * t134)) * t136)) (wrap64 ((wrap64 ((wrap64 (-a1_1)) * t134)) * t136))) else (spec_l09Paired.j3 k3 x14_3 (wrap64 ((wrap64 (a2_1 * t133)) * t136)) (wrap64 ((wrap64 ((wrap64 (t135 * t133)) * t134)) - (wrap64 ((wrap64 (a1_1 * a2_1)) * t136)))) (wrap64 ((wrap64 (t133 * t134)) * t136)) (wrap64 ((wrap64 ((wrap64 (-a1_1)) * t134)) * t136))))) = some (r1, r2, r3, r4, r5) := by rw [if_pos rfl] at H; exact H
              clear H
              have H := H1
              clear H1
              by_cases c164 : (wrap64 ((wrap64 (t133 * t134)) * t136)) = 0
              ·rw [if_pos c164] at H
               have c164b0 : ((wrap64 ((wrap64 (t133 * t134)) * t136)) == 0) = true := beq_iff_eq.mpr c164
               have c164b1 : ((wrap64 ((wrap64 (t133 * t134)) * t136)) != 0) = false := bne_eq_false_iff_eq.mpr c164
               clear c164
               have H' := Aside0.mk H
               clear H
               have hnb165 := NB137_130.out
               have hnc165 := NB130_137.out
               have hnb166 := NB137_131.out
               have hnc166 := NB131_137.out
               have hnb167 := NB137_132.out
               have hnc167 := NB132_137.out
               have hcz168_0 : wr.cell? ⟨gb137, 0, none⟩ = some (.int .i64 (wrap64 ((wrap64 (a2_1 * t133)) * t136))) := (blk_cell BK137.out 0).trans rfl
               have hcz168_1 : wr.cell? ⟨gb137, 1, none⟩ = some (.int .i64 (wrap64 ((wrap64 ((wrap64 (t135 * t133)) * t134)) - (wrap64 ((wrap64 (a1_1 * a2_1)) * t136))))) := (blk_cell BK137.out 1).trans rfl
               have hcz168_2 : wr.cell? ⟨gb137, 2, none⟩ = some (.int .i64 (wrap64 ((wrap64 (t133 * t134)) * t136))) := (blk_cell BK137.out 2).trans rfl
               have hcz168_3 : wr.cell? ⟨gb137, 3, none⟩ = some (.int .i64 (wrap64 ((wrap64 ((wrap64 (-a1_1)) * t134)) * t136))) := (blk_cell BK137.out 3).trans rfl
               have hfz168_0 := blk_frozen BK137.out 0
               have hfz168_1 := blk_frozen BK137.out 1
               have hfz168_2 := blk_frozen BK137.out 2
               have hfz168_3 := blk_frozen BK137.out 3
               go_wp2
               repeat (go_quiet (fail); try go_wp2)
               go_roundg k3
               case measure => have := HJ3.out; have := HK2.out; have := HK3.out; omega
               case rel => exact ⟨(x14_3), (wrap64 (2 + 1)), (by first | rfl | (simp; done) | (simp [*]; done) | (simp [wrap64]; done)), (by first | rfl | (simp; done) | (simp [*]; done) | (simp [wrap64]; done)), H', ⟨by have := HJ3.out; have := HK2.out; have := HK3.out; omega⟩, ⟨by (with_reducible repeat first | apply blk_drewN | apply blk_drew | apply blk_alloc); exact BK130.out⟩, ⟨by (with_reducible repeat first | apply blk_drewN | apply blk_drew | apply blk_alloc); exact BK131.out⟩, ⟨by (with_reducible repeat first | apply blk_drewN | apply blk_drew | apply blk_alloc); exact BK132.out⟩, ⟨by (with_reducible repeat first | apply blk_drewN | apply blk_drew | apply blk_alloc); exact BK137.out⟩, ⟨by repeat (first | (with_reducible first | exact HB.out | apply below_alloc | apply pw_below_drewN | apply below_drew1 | refine below_set ?_ GE130.out | refine below_set ?_ GE131.out | refine below_set ?_ GE132.out | refine below_set ?_ GE137.out) | exact HB.out)⟩⟩
              ·rw [if_neg c164] at H
               have c164b0 : ((wrap64 ((wrap64 (t133 * t134)) * t136)) == 0) = false := beq_eq_false_iff_ne.mpr c164
               have c164b1 : ((wrap64 ((wrap64 (t133 * t134)) * t136)) != 0) = true := bne_iff_ne.mpr c164
               by_cases c169 : (wrap64 ((wrap64 (t133 * t134)) * t136)) < 0
               ·rw [if_pos c169] at H
                have c169b0 : decide ((wrap64 ((wrap64 (t133 * t134)) * t136)) < 0) = true := decide_eq_true c169
                clear c169
                have H' := Aside0.mk H
                clear H
                have hnb170 := NB137_130.out
                have hnc170 := NB130_137.out
                have hnb171 := NB137_131.out
                have hnc171 := NB131_137.out
                have hnb172 := NB137_132.out
                have hnc172 := NB132_137.out
                have hcz173_0 : wr.cell? ⟨gb137, 0, none⟩ = some (.int .i64 (wrap64 ((wrap64 (a2_1 * t133)) * t136))) := (blk_cell BK137.out 0).trans rfl
                have hcz173_1 : wr.cell? ⟨gb137, 1, none⟩ = some (.int .i64 (wrap64 ((wrap64 ((wrap64 (t135 * t133)) * t134)) - (wrap64 ((wrap64 (a1_1 * a2_1)) * t136))))) := (blk_cell BK137.out 1).trans rfl
                have hcz173_2 : wr.cell? ⟨gb137, 2, none⟩ = some (.int .i64 (wrap64 ((wrap64 (t133 * t134)) * t136))) := (blk_cell BK137.out 2).trans rfl
                have hcz173_3 : wr.cell? ⟨gb137, 3, none⟩ = some (.int .i64 (wrap64 ((wrap64 ((wrap64 (-a1_1)) * t134)) * t136))) := (blk_cell BK137.out 3).trans rfl
                have hfz173_0 := blk_frozen BK137.out 0
                have hfz173_1 := blk_frozen BK137.out 1
                have hfz173_2 := blk_frozen BK137.out 2
                have hfz173_3 := blk_frozen BK137.out 3
                go_wp2
                repeat (go_quiet (fail); try go_wp2)
                go_meet
                case rel => exact ⟨_, (wrap64 (-x14_3)), (by first | rfl | (simp; done) | (simp [*]; done) | (simp [wrap64]; done)), H', ⟨by have := HJ3.out; have := HK2.out; have := HK3.out; first | omega | exact Nat.le_refl _⟩, ⟨by (with_reducible repeat first | apply blk_drewN | apply blk_drew | apply blk_alloc); exact BK130.out⟩, ⟨by (with_reducible repeat first | apply blk_drewN | apply blk_drew | apply blk_alloc); exact BK131.out⟩, ⟨by (with_reducible repeat first | apply blk_drewN | apply blk_drew | apply blk_alloc); exact BK132.out⟩, ⟨by (with_reducible repeat first | apply blk_drewN | apply blk_drew | apply blk_alloc); exact BK137.out⟩, ⟨by repeat (first | (with_reducible first | exact HB.out | apply below_alloc | apply pw_below_drewN | apply below_drew1 | refine below_set ?_ GE130.out | refine below_set ?_ GE131.out | refine below_set ?_ GE132.out | refine below_set ?_ GE137.out) | exact HB.out)⟩⟩
               ·rw [if_neg c169] at H
                have c169b0 : decide ((wrap64 ((wrap64 (t133 * t134)) * t136)) < 0) = false := decide_eq_false c169
                clear c169
                have H' := Aside0.mk H
                clear H
                have hnb174 := NB137_130.out
                have hnc174 := NB130_137.out
                have hnb175 := NB137_131.out
                have hnc175 := NB131_137.out
                have hnb176 := NB137_132.out
                have hnc176 := NB132_137.out
                have hcz177_0 : wr.cell? ⟨gb137, 0, none⟩ = some (.int .i64 (wrap64 ((wrap64 (a2_1 * t133)) * t136))) := (blk_cell BK137.out 0).trans rfl
                have hcz177_1 : wr.cell? ⟨gb137, 1, none⟩ = some (.int .i64 (wrap64 ((wrap64 ((wrap64 (t135 * t133)) * t134)) - (wrap64 ((wrap64 (a1_1 * a2_1)) * t136))))) := (blk_cell BK137.out 1).trans rfl
                have hcz177_2 : wr.cell? ⟨gb137, 2, none⟩ = some (.int .i64 (wrap64 ((wrap64 (t133 * t134)) * t136))) := (blk_cell BK137.out 2).trans rfl
                have hcz177_3 : wr.cell? ⟨gb137, 3, none⟩ = some (.int .i64 (wrap64 ((wrap64 ((wrap64 (-a1_1)) * t134)) * t136))) := (blk_cell BK137.out 3).trans rfl
                have hfz177_0 := blk_frozen BK137.out 0
                have hfz177_1 := blk_frozen BK137.out 1
                have hfz177_2 := blk_frozen BK137.out 2
                have hfz177_3 := blk_frozen BK137.out 3
                go_wp2
                repeat (go_quiet (fail); try go_wp2)
                go_meet
                case rel => exact ⟨_, (x14_3), (by first | rfl | (simp; done) | (simp [*]; done) | (simp [wrap64]; done)), H', ⟨by have := HJ3.out; have := HK2.out; have := HK3.out; first | omega | exact Nat.le_refl _⟩, ⟨by (with_reducible repeat first | apply blk_drewN | apply blk_drew | apply blk_alloc); exact BK130.out⟩, ⟨by (with_reducible repeat first | apply blk_drewN | apply blk_drew | apply blk_alloc); exact BK131.out⟩, ⟨by (with_reducible repeat first | apply blk_drewN | apply blk_drew | apply blk_alloc); exact BK132.out⟩, ⟨by (with_reducible repeat first | apply blk_drewN | apply blk_drew | apply blk_alloc); exact BK137.out⟩, ⟨by repeat (first | (with_reducible first | exact HB.out | apply below_alloc | apply pw_below_drewN | apply below_drew1 | refine below_set ?_ GE130.out | refine below_set ?_ GE131.out | refine below_set ?_ GE132.out | refine below_set ?_ GE137.out) | exact HB.out)⟩⟩
             ·rw [if_neg c163] at H
              have c163b0 : (x16_3 == 2) = false := beq_eq_false_iff_ne.mpr c163
              have c163b1 : (x16_3 != 2) = true := bne_iff_ne.mpr c163
              by_cases c178 : x16_3 = 3
              ·subst c178
               have H1 : (if (wrap64 ((wrap64 ((wrap64 (-a1_1)) * t134)) * t136)) = 0 then (spec_l09Paired.l1 k3 x14_3 (wrap64 (3 + 1)) (wrap64 ((wrap64 (a2_1 * t133)) * t136)) (wrap64 ((wrap64 ((wrap64 (t135 * t133)) * t134)) - (wrap64 ((wrap64 (a1_1 * a2_1)) * t136)))) (wrap64 ((wrap64 (t133 * t134)) * t136)) (wrap64 ((wrap64 ((wrap64 (-a1_1)) * t134)) * t136))) else (if (wrap64 ((wrap64 ((wrap64 (-a1_1)) * t134)) * t136)) < 0 then (spec_l09Paired.j3 k3 (wrap64 (-x14_3)) (wrap64 ((wrap64 (a2_1 * t133)) * t136)) (wrap64 ((wrap64 ((wrap64 (t135 * t133)) * t134)) - (wrap64 ((wrap64 (a1_1 * a2_1)) * t136)))) (wrap64 ((wrap64 (t133 * t134)) * t136)) (wrap64 ((wrap64 ((wrap64 (-a1_1)) * t134)) * t136))) else (spec_l09Paired.j3 k3 x14_3 (wrap64 ((wrap64 (a2_1 * t133)) * t136)) (wrap64 ((wrap64 ((wrap64 (t135 * t133)) * t134)) - (wrap64 ((wrap64 (a1_1 * a2_1)) * t136)))) (wrap64 ((wrap64 (t133 * t134)) * t136)) (wrap64 ((wrap64 ((wrap64 (-a1_1)) * t134)) * t136))))) = some (r1, r2, r3, r4, r5) := by rw [if_pos rfl] at H; exact H
               clear H
               have H := H1
               clear H1
               by_cases c179 : (wrap64 ((wrap64 ((wrap64 (-a1_1)) * t134)) * t136)) = 0
               ·rw [if_pos c179] at H
                have c179b0 : ((wrap64 ((wrap64 ((wrap64 (-a1_1)) * t134)) * t136)) == 0) = true := beq_iff_eq.mpr c179
                have c179b1 : ((wrap64 ((wrap64 ((wrap64 (-a1_1)) * t134)) * t136)) != 0) = false := bne_eq_false_iff_eq.mpr c179
                clear c179
                have H' := Aside0.mk H
                clear H
                have hnb180 := NB137_130.out
                have hnc180 := NB130_137.out
                have hnb181 := NB137_131.out
                have hnc181 := NB131_137.out
                have hnb182 := NB137_132.out
                have hnc182 := NB132_137.out
                have hcz183_0 : wr.cell? ⟨gb137, 0, none⟩ = some (.int .i64 (wrap64 ((wrap64 (a2_1 * t133)) * t136))) := (blk_cell BK137.out 0).trans rfl
                have hcz183_1 : wr.cell? ⟨gb137, 1, none⟩ = some (.int .i64 (wrap64 ((wrap64 ((wrap64 (t135 * t133)) * t134)) - (wrap64 ((wrap64 (a1_1 * a2_1)) * t136))))) := (blk_cell BK137.out 1).trans rfl
                have hcz183_2 : wr.cell? ⟨gb137, 2, none⟩ = some (.int .i64 (wrap64 ((wrap64 (t133 * t134)) * t136))) := (blk_cell BK137.out 2).trans rfl
                have hcz183_3 : wr.cell? ⟨gb137, 3, none⟩ = some (.int .i64 (wrap64 ((wrap64 ((wrap64 (-a1_1)) * t134)) * t136))) := (blk_cell BK137.out 3).trans rfl
                have hfz183_0 := blk_frozen BK137.out 0
                have hfz183_1 := blk_frozen BK137.out 1
                have hfz183_2 := blk_frozen BK137.out 2
                have hfz183_3 := blk_frozen BK137.out 3
                go_wp2
                repeat (go_quiet (fail); try go_wp2)
                go_roundg k3
                case measure => have := HJ3.out; have := HK2.out; have := HK3.out; omega
                case rel => exact ⟨(x14_3), (wrap64 (3 + 1)), (by first | rfl | (simp; done) | (simp [*]; done) | (simp [wrap64]; done)), (by first | rfl | (simp; done) | (simp [*]; done) | (simp [wrap64]; done)), H', ⟨by have := HJ3.out; have := HK2.out; have := HK3.out; omega⟩, ⟨by (with_reducible repeat first | apply blk_drewN | apply blk_drew | apply blk_alloc); exact BK130.out⟩, ⟨by (with_reducible repeat first | apply blk_drewN | apply blk_drew | apply blk_alloc); exact BK131.out⟩, ⟨by (with_reducible repeat first | apply blk_drewN | apply blk_drew | apply blk_alloc); exact BK132.out⟩, ⟨by (with_reducible repeat first | apply blk_drewN | apply blk_drew | apply blk_alloc); exact BK137.out⟩, ⟨by repeat (first | (with_reducible first | exact HB.out | apply below_alloc | apply pw_below_drewN | apply below_drew1 | refine below_set ?_ GE130.out | refine below_set ?_ GE131.out | refine below_set ?_ GE132.out | refine below_set ?_ GE137.out) | exact HB.out)⟩⟩
               ·rw [if_neg c179] at H
                have c179b0 : ((wrap64 ((wrap64 ((wrap64 (-a1_1)) * t134)) * t136)) == 0) = false := beq_eq_false_iff_ne.mpr c179
                have c179b1 : ((wrap64 ((wrap64 ((wrap64 (-a1_1)) * t134)) * t136)) != 0) = true := bne_iff_ne.mpr c179
                by_cases c184 : (wrap64 ((wrap64 ((wrap64 (-a1_1)) * t134)) * t136)) < 0
                ·rw [if_pos c184] at H
                 have c184b0 : decide ((wrap64 ((wrap64 ((wrap64 (-a1_1)) * t134)) * t136)) < 0) = true := decide_eq_true c184
                 clear c184
                 have H' := Aside0.mk H
                 clear H
                 have hnb185 := NB137_130.out
                 have hnc185 := NB130_137.out
                 have hnb186 := NB137_131.out
                 have hnc186 := NB131_137.out
                 have hnb187 := NB137_132.out
                 have hnc187 := NB132_137.out
                 have hcz188_0 : wr.cell? ⟨gb137, 0, none⟩ = some (.int .i64 (wrap64 ((wrap64 (a2_1 * t133)) * t136))) := (blk_cell BK137.out 0).trans rfl
                 have hcz188_1 : wr.cell? ⟨gb137, 1, none⟩ = some (.int .i64 (wrap64 ((wrap64 ((wrap64 (t135 * t133)) * t134)) - (wrap64 ((wrap64 (a1_1 * a2_1)) * t136))))) := (blk_cell BK137.out 1).trans rfl
                 have hcz188_2 : wr.cell? ⟨gb137, 2, none⟩ = some (.int .i64 (wrap64 ((wrap64 (t133 * t134)) * t136))) := (blk_cell BK137.out 2).trans rfl
                 have hcz188_3 : wr.cell? ⟨gb137, 3, none⟩ = some (.int .i64 (wrap64 ((wrap64 ((wrap64 (-a1_1)) * t134)) * t136))) := (blk_cell BK137.out 3).trans rfl
                 have hfz188_0 := blk_frozen BK137.out 0
                 have hfz188_1 := blk_frozen BK137.out 1
                 have hfz188_2 := blk_frozen BK137.out 2
                 have hfz188_3 := blk_frozen BK137.out 3
                 go_wp2
                 repeat (go_quiet (fail); try go_wp2)
                 go_meet
                 case rel => exact ⟨_, (wrap64 (-x14_3)), (by first | rfl | (simp; done) | (simp [*]; done) | (simp [wrap64]; done)), H', ⟨by have := HJ3.out; have := HK2.out; have := HK3.out; first | omega | exact Nat.le_refl _⟩, ⟨by (with_reducible repeat first | apply blk_drewN | apply blk_drew | apply blk_alloc); exact BK130.out⟩, ⟨by (with_reducible repeat first | apply blk_drewN | apply blk_drew | apply blk_alloc); exact BK131.out⟩, ⟨by (with_reducible repeat first | apply blk_drewN | apply blk_drew | apply blk_alloc); exact BK132.out⟩, ⟨by (with_reducible repeat first | apply blk_drewN | apply blk_drew | apply blk_alloc); exact BK137.out⟩, ⟨by repeat (first | (with_reducible first | exact HB.out | apply below_alloc | apply pw_below_drewN | apply below_drew1 | refine below_set ?_ GE130.out | refine below_set ?_ GE131.out | refine below_set ?_ GE132.out | refine below_set ?_ GE137.out) | exact HB.out)⟩⟩
                ·rw [if_neg c184] at H
                 have c184b0 : decide ((wrap64 ((wrap64 ((wrap64 (-a1_1)) * t134)) * t136)) < 0) = false := decide_eq_false c184
                 clear c184
                 have H' := Aside0.mk H
                 clear H
                 have hnb189 := NB137_130.out
                 have hnc189 := NB130_137.out
                 have hnb190 := NB137_131.out
                 have hnc190 := NB131_137.out
                 have hnb191 := NB137_132.out
                 have hnc191 := NB132_137.out
                 have hcz192_0 : wr.cell? ⟨gb137, 0, none⟩ = some (.int .i64 (wrap64 ((wrap64 (a2_1 * t133)) * t136))) := (blk_cell BK137.out 0).trans rfl
                 have hcz192_1 : wr.cell? ⟨gb137, 1, none⟩ = some (.int .i64 (wrap64 ((wrap64 ((wrap64 (t135 * t133)) * t134)) - (wrap64 ((wrap64 (a1_1 * a2_1)) * t136))))) := (blk_cell BK137.out 1).trans rfl
                 have hcz192_2 : wr.cell? ⟨gb137, 2, none⟩ = some (.int .i64 (wrap64 ((wrap64 (t133 * t134)) * t136))) := (blk_cell BK137.out 2).trans rfl
                 have hcz192_3 : wr.cell? ⟨gb137, 3, none⟩ = some (.int .i64 (wrap64 ((wrap64 ((wrap64 (-a1_1)) * t134)) * t136))) := (blk_cell BK137.out 3).trans rfl
                 have hfz192_0 := blk_frozen BK137.out 0
                 have hfz192_1 := blk_frozen BK137.out 1
                 have hfz192_2 := blk_frozen BK137.out 2
                 have hfz192_3 := blk_frozen BK137.out 3
                 go_wp2
                 repeat (go_quiet (fail); try go_wp2)
                 go_meet
                 case rel => exact ⟨_, (x14_3), (by first | rfl | (simp; done) | (simp [*]; done) | (simp [wrap64]; done)), H', ⟨by have := HJ3.out; have := HK2.out; have := HK3.out; first | omega | exact Nat.le_refl _⟩, ⟨by (with_reducible repeat first | apply blk_drewN | apply blk_drew | apply blk_alloc); exact BK130.out⟩, ⟨by (with_reducible repeat first | apply blk_drewN | apply blk_drew | apply blk_alloc); exact BK131.out⟩, ⟨by (with_reducible repeat first | apply blk_drewN | apply blk_drew | apply blk_alloc); exact BK132.out⟩, ⟨by (with_reducible repeat first | apply blk_drewN | apply blk_drew | apply blk_alloc); exact BK137.out⟩, ⟨by repeat (first | (with_reducible first | exact HB.out | apply below_alloc | apply pw_below_drewN | apply below_drew1 | refine below_set ?_ GE130.out | refine below_set ?_ GE131.out | refine below_set ?_ GE132.out | refine below_set ?_ GE137.out) | exact HB.out)⟩⟩
              ·rw [if_neg c178] at H
               exact absurd H (by simp)
          ·rw [if_neg c132] at H
           have c132b0 : decide (x16_3 < 4) = false := decide_eq_false c132
           clear c132
           (first | rw [c132b0] | (simp only [i64_w, i32_w]; rw [c132b0]) | skip)
           have H' := Aside0.mk H
           clear H
           go_wp2
           repeat (go_quiet (fail); try go_wp2)
           go_meet
           case rel => exact ⟨_, (x14_3), (by first | rfl | (simp; done) | (simp [*]; done) | (simp [wrap64]; done)), H', ⟨by have := HJ3.out; have := HK2.out; have := HK3.out; first | omega | exact Nat.le_refl _⟩, ⟨by (with_reducible repeat first | apply blk_drewN | apply blk_drew | apply blk_alloc); exact BK130.out⟩, ⟨by (with_reducible repeat first | apply blk_drewN | apply blk_drew | apply blk_alloc); exact BK131.out⟩, ⟨by (with_reducible repeat first | apply blk_drewN | apply blk_drew | apply blk_alloc); exact BK132.out⟩, ⟨by (with_reducible repeat first | apply blk_drewN | apply blk_drew | apply blk_alloc); exact BK137.out⟩, ⟨by repeat (first | (with_reducible first | exact HB.out | apply below_alloc | apply pw_below_drewN | apply below_drew1 | refine below_set ?_ GE130.out | refine below_set ?_ GE131.out | refine below_set ?_ GE132.out | refine below_set ?_ GE137.out) | exact HB.out)⟩⟩
       case rest =>
        clear HC131
        try clear c1
        try clear p2
        try clear c6
        try clear p6
        try clear c7
        try clear c8
        try clear c9
        try clear c10
        try clear c11
        try clear c12
        try clear c13
        try clear c14
        try clear c15
        try clear c16
        try clear c17
        try clear c18
        try clear c19
        try clear p64
        try clear c65
        try clear c69
        try clear c70
        try clear c71
        try clear c74
        try clear c74b0
        try clear c74b1
        try clear c75
        try clear c75b0
        try clear c75b1
        try clear c76
        try clear c76b0
        try clear c76b1
        try clear c77
        try clear c78
        try clear c79
        try clear c82
        try clear c83
        try clear c84
        try clear c88
        try clear c89
        try clear c90
        try clear c93
        try clear c93b0
        try clear c93b1
        try clear c94
        try clear c94b0
        try clear c94b1
        try clear c95
        try clear c95b0
        try clear c95b1
        try clear c96
        try clear c97
        try clear c98
        try clear c101
        try clear c102
        try clear c103
        try clear c107
        try clear c108
        try clear c109
        try clear c112
        try clear c113
        try clear c113b0
        try clear c113b1
        try clear c114
        try clear c114b0
        try clear c114b1
        try clear c115
        try clear c116
        try clear c117
        try clear c120
        try clear c121
        try clear c122
        try clear c126
        try clear c127
        try clear c128
        try clear c132
        try clear c132b0
        try clear c133
        try clear c133b0
        try clear c133b1
        try clear c134
        try clear c134b0
        try clear c134b1
        try clear c135
        try clear c136
        try clear c137
        try clear c139
        try clear c139b0
        try clear c140
        try clear c141
        try clear c142
        try clear c144
        try clear c145
        try clear c146
        try clear c148
        try clear c148b0
        try clear c148b1
        try clear c149
        try clear c149b0
        try clear c149b1
        try clear c150
        try clear c151
        try clear c152
        try clear c154
        try clear c154b0
        try clear c155
        try clear c156
        try clear c157
        try clear c159
        try clear c160
        try clear c161
        try clear c163
        try clear c163b0
        try clear c163b1
        try clear c164
        try clear c164b0
        try clear c164b1
        try clear c165
        try clear c166
        try clear c167
        try clear c169
        try clear c169b0
        try clear c170
        try clear c171
        try clear c172
        try clear c174
        try clear c175
        try clear c176
        try clear c178
        try clear c179
        try clear c179b0
        try clear c179b1
        try clear c180
        try clear c181
        try clear c182
        try clear c184
        try clear c184b0
        try clear c185
        try clear c186
        try clear c187
        try clear c189
        try clear c190
        try clear c191
        try clear hcz104_0
        try clear hcz104_1
        try clear hcz104_2
        try clear hcz104_3
        try clear hcz10_0
        try clear hcz10_1
        try clear hcz10_2
        try clear hcz110_0
        try clear hcz110_1
        try clear hcz110_2
        try clear hcz110_3
        try clear hcz118_0
        try clear hcz118_1
        try clear hcz118_2
        try clear hcz118_3
        try clear hcz123_0
        try clear hcz123_1
        try clear hcz123_2
        try clear hcz123_3
        try clear hcz129_0
        try clear hcz129_1
        try clear hcz129_2
        try clear hcz129_3
        try clear hcz12_0
        try clear hcz12_1
        try clear hcz12_2
        try clear hcz138_0
        try clear hcz138_1
        try clear hcz138_2
        try clear hcz138_3
        try clear hcz143_0
        try clear hcz143_1
        try clear hcz143_2
        try clear hcz143_3
        try clear hcz147_0
        try clear hcz147_1
        try clear hcz147_2
        try clear hcz147_3
        try clear hcz153_0
        try clear hcz153_1
        try clear hcz153_2
        try clear hcz153_3
        try clear hcz158_0
        try clear hcz158_1
        try clear hcz158_2
        try clear hcz158_3
        try clear hcz162_0
        try clear hcz162_1
        try clear hcz162_2
        try clear hcz162_3
        try clear hcz168_0
        try clear hcz168_1
        try clear hcz168_2
        try clear hcz168_3
        try clear hcz16_0
        try clear hcz16_1
        try clear hcz16_2
        try clear hcz173_0
        try clear hcz173_1
        try clear hcz173_2
        try clear hcz173_3
        try clear hcz177_0
        try clear hcz177_1
        try clear hcz177_2
        try clear hcz177_3
        try clear hcz183_0
        try clear hcz183_1
        try clear hcz183_2
        try clear hcz183_3
        try clear hcz188_0
        try clear hcz188_1
        try clear hcz188_2
        try clear hcz188_3
        try clear hcz192_0
        try clear hcz192_1
        try clear hcz192_2
        try clear hcz192_3
        try clear hcz20_0
        try clear hcz20_1
        try clear hcz20_2
        try clear hcz22_0
        try clear hcz22_1
        try clear hcz22_2
        try clear hcz26_0
        try clear hcz26_1
        try clear hcz26_2
        try clear hcz28_0
        try clear hcz28_1
        try clear hcz28_2
        try clear hcz31_0
        try clear hcz31_1
        try clear hcz31_2
        try clear hcz33_0
        try clear hcz33_1
        try clear hcz33_2
        try clear hcz37_0
        try clear hcz37_1
        try clear hcz37_2
        try clear hcz37_3
        try clear hcz46_0
        try clear hcz46_1
        try clear hcz46_2
        try clear hcz48_0
        try clear hcz48_1
        try clear hcz48_2
        try clear hcz53_0
        try clear hcz53_1
        try clear hcz53_2
        try clear hcz53_3
        try clear hcz61_0
        try clear hcz61_1
        try clear hcz61_2
        try clear hcz61_3
        try clear hcz66_0
        try clear hcz66_1
        try clear hcz66_2
        try clear hcz66_3
        try clear hcz72_0
        try clear hcz72_1
        try clear hcz72_2
        try clear hcz72_3
        try clear hcz80_0
        try clear hcz80_1
        try clear hcz80_2
        try clear hcz80_3
        try clear hcz85_0
        try clear hcz85_1
        try clear hcz85_2
        try clear hcz85_3
        try clear hcz91_0
        try clear hcz91_1
        try clear hcz91_2
        try clear hcz91_3
        try clear hcz99_0
        try clear hcz99_1
        try clear hcz99_2
        try clear hcz99_3
        try clear hfz104_0
        try clear hfz104_1
        try clear hfz104_2
        try clear hfz104_3
        try clear hfz10_0
        try clear hfz10_1
        try clear hfz10_2
        try clear hfz110_0
        try clear hfz110_1
        try clear hfz110_2
        try clear hfz110_3
        try clear hfz118_0
        try clear hfz118_1
        try clear hfz118_2
        try clear hfz118_3
        try clear hfz123_0
        try clear hfz123_1
        try clear hfz123_2
        try clear hfz123_3
        try clear hfz129_0
        try clear hfz129_1
        try clear hfz129_2
        try clear hfz129_3
        try clear hfz12_0
        try clear hfz12_1
        try clear hfz12_2
        try clear hfz138_0
        try clear hfz138_1
        try clear hfz138_2
        try clear hfz138_3
        try clear hfz143_0
        try clear hfz143_1
        try clear hfz143_2
        try clear hfz143_3
        try clear hfz147_0
        try clear hfz147_1
        try clear hfz147_2
        try clear hfz147_3
        try clear hfz153_0
        try clear hfz153_1
        try clear hfz153_2
        try clear hfz153_3
        try clear hfz158_0
        try clear hfz158_1
        try clear hfz158_2
        try clear hfz158_3
        try clear hfz162_0
        try clear hfz162_1
        try clear hfz162_2
        try clear hfz162_3
        try clear hfz168_0
        try clear hfz168_1
        try clear hfz168_2
        try clear hfz168_3
        try clear hfz16_0
        try clear hfz16_1
        try clear hfz16_2
        try clear hfz173_0
        try clear hfz173_1
        try clear hfz173_2
        try clear hfz173_3
        try clear hfz177_0
        try clear hfz177_1
        try clear hfz177_2
        try clear hfz177_3
        try clear hfz183_0
        try clear hfz183_1
        try clear hfz183_2
        try clear hfz183_3
        try clear hfz188_0
        try clear hfz188_1
        try clear hfz188_2
        try clear hfz188_3
        try clear hfz192_0
        try clear hfz192_1
        try clear hfz192_2
        try clear hfz192_3
        try clear hfz20_0
        try clear hfz20_1
        try clear hfz20_2
        try clear hfz22_0
        try clear hfz22_1
        try clear hfz22_2
        try clear hfz26_0
        try clear hfz26_1
        try clear hfz26_2
        try clear hfz28_0
        try clear hfz28_1
        try clear hfz28_2
        try clear hfz31_0
        try clear hfz31_1
        try clear hfz31_2
        try clear hfz33_0
        try clear hfz33_1
        try clear hfz33_2
        try clear hfz37_0
        try clear hfz37_1
        try clear hfz37_2
        try clear hfz37_3
        try clear hfz46_0
        try clear hfz46_1
        try clear hfz46_2
        try clear hfz48_0
        try clear hfz48_1
        try clear hfz48_2
        try clear hfz53_0
        try clear hfz53_1
        try clear hfz53_2
        try clear hfz53_3
        try clear hfz61_0
        try clear hfz61_1
        try clear hfz61_2
        try clear hfz61_3
        try clear hfz66_0
        try clear hfz66_1
        try clear hfz66_2
        try clear hfz66_3
        try clear hfz72_0
        try clear hfz72_1
        try clear hfz72_2
        try clear hfz72_3
        try clear hfz80_0
        try clear hfz80_1
        try clear hfz80_2
        try clear hfz80_3
        try clear hfz85_0
        try clear hfz85_1
        try clear hfz85_2
        try clear hfz85_3
        try clear hfz91_0
        try clear hfz91_1
        try clear hfz91_2
        try clear hfz91_3
        try clear hfz99_0
        try clear hfz99_1
        try clear hfz99_2
        try clear hfz99_3
        try clear p2
        try clear p6
        try clear p64
        obtain ⟨kq, x14_130, rfl, HA, HJ130, BK130, BK131, BK132, BK137, HB⟩ := hcut
        cases kq with
        | zero => exact absurd HA.out (by simp [spec_l09Paired.j3])
        | succ kj130 =>
         have H := HA.out
         clear HA
         simp only [spec_l09Paired.j3] at H
         have H' := Aside0.mk H
         clear H
         go_wp2
         repeat (go_quiet (fail); try go_wp2)
         go_loopg [17] kj130 (fun kq v17 w' => ∃ (x17_4 : Int) (x133000_4 : Int) (x133001_4 : Int) (x133002_4 : Int) (x133003_4 : Int) (x138000_4 : Int) (x138001_4 : Int) (x138002_4 : Int) (x138003_4 : Int), v17 = .int .i64 x17_4 ∧ Aside0 (spec_l09Paired.l2 kq x14_130 x17_4 x138000_4 x138001_4 x138002_4 x138003_4 = some (r1, r2, r3, r4, r5)) ∧ Aside0 (kq ≤ kj130) ∧ Aside0 (w'.heap[gb130]? = some (.cells #[.int .i64 a1_0, .int .i64 a1_1, .int .i64 a1_2] 29 (0, 0))) ∧ Aside0 (w'.heap[gb131]? = some (.cells #[.int .i64 a2_0, .int .i64 a2_1, .int .i64 a2_2] 29 (0, 0))) ∧ Aside0 (w'.heap[gb132]? = some (.cells #[.int .i64 x133000_4, .int .i64 x133001_4, .int .i64 x133002_4, .int .i64 x133003_4] 26 (0, 0))) ∧ Aside0 (w'.heap[gb137]? = some (.cells #[.int .i64 x138000_4, .int .i64 x138001_4, .int .i64 x138002_4, .int .i64 x138003_4] 98 (0, 0))) ∧ Aside0 (Below w.heap.size w w'))
         case atStart => exact ⟨(0), (0), (0), (0), (0), ((wrap64 ((wrap64 (a2_1 * t133)) * t136))), ((wrap64 ((wrap64 ((wrap64 (t135 * t133)) * t134)) - (wrap64 ((wrap64 (a1_1 * a2_1)) * t136))))), ((wrap64 ((wrap64 (t133 * t134)) * t136))), ((wrap64 ((wrap64 ((wrap64 (-a1_1)) * t134)) * t136))), (by first | rfl | (simp; done) | (simp [*]; done) | (simp [wrap64]; done)), H', ⟨Nat.le_refl _⟩, ⟨by (with_reducible repeat first | apply blk_drewN | apply blk_drew | apply blk_alloc); exact BK130.out⟩, ⟨by (with_reducible repeat first | apply blk_drewN | apply blk_drew | apply blk_alloc); exact BK131.out⟩, ⟨by (with_reducible repeat first | apply blk_drewN | apply blk_drew | apply blk_alloc); exact BK132.out⟩, ⟨by (with_reducible repeat first | apply blk_drewN | apply blk_drew | apply blk_alloc); exact BK137.out⟩, ⟨by repeat (first | (with_reducible first | exact HB.out | apply below_alloc | apply pw_below_drewN | apply below_drew1 | refine below_set ?_ GE130.out | refine below_set ?_ GE131.out | refine below_set ?_ GE132.out | refine below_set ?_ GE137.out) | exact HB.out)⟩⟩
         case round =>
          clear H'
          try clear c1
          try clear p2
          try clear c6
          try clear p6
          try clear c7
          try clear c8
          try clear c9
          try clear c10
          try clear c11
          try clear c12
          try clear c13
          try clear c14
          try clear c15
          try clear c16
          try clear c17
          try clear c18
          try clear c19
          try clear p64
          try clear c65
          try clear c69
          try clear c70
          try clear c71
          try clear c74
          try clear c74b0
          try clear c74b1
          try clear c75
          try clear c75b0
          try clear c75b1
          try clear c76
          try clear c76b0
          try clear c76b1
          try clear c77
          try clear c78
          try clear c79
          try clear c82
          try clear c83
          try clear c84
          try clear c88
          try clear c89
          try clear c90
          try clear c93
          try clear c93b0
          try clear c93b1
          try clear c94
          try clear c94b0
          try clear c94b1
          try clear c95
          try clear c95b0
          try clear c95b1
          try clear c96
          try clear c97
          try clear c98
          try clear c101
          try clear c102
          try clear c103
          try clear c107
          try clear c108
          try clear c109
          try clear c112
          try clear c113
          try clear c113b0
          try clear c113b1
          try clear c114
          try clear c114b0
          try clear c114b1
          try clear c115
          try clear c116
          try clear c117
          try clear c120
          try clear c121
          try clear c122
          try clear c126
          try clear c127
          try clear c128
          try clear c132
          try clear c132b0
          try clear c133
          try clear c133b0
          try clear c133b1
          try clear c134
          try clear c134b0
          try clear c134b1
          try clear c135
          try clear c136
          try clear c137
          try clear c139
          try clear c139b0
          try clear c140
          try clear c141
          try clear c142
          try clear c144
          try clear c145
          try clear c146
          try clear c148
          try clear c148b0
          try clear c148b1
          try clear c149
          try clear c149b0
          try clear c149b1
          try clear c150
          try clear c151
          try clear c152
          try clear c154
          try clear c154b0
          try clear c155
          try clear c156
          try clear c157
          try clear c159
          try clear c160
          try clear c161
          try clear c163
          try clear c163b0
          try clear c163b1
          try clear c164
          try clear c164b0
          try clear c164b1
          try clear c165
          try clear c166
          try clear c167
          try clear c169
          try clear c169b0
          try clear c170
          try clear c171
          try clear c172
          try clear c174
          try clear c175
          try clear c176
          try clear c178
          try clear c179
          try clear c179b0
          try clear c179b1
          try clear c180
          try clear c181
          try clear c182
          try clear c184
          try clear c184b0
          try clear c185
          try clear c186
          try clear c187
          try clear c189
          try clear c190
          try clear c191
          try clear hcz104_0
          try clear hcz104_1
          try clear hcz104_2
          try clear hcz104_3
          try clear hcz10_0
          try clear hcz10_1
          try clear hcz10_2
          try clear hcz110_0
          try clear hcz110_1
          try clear hcz110_2
          try clear hcz110_3
          try clear hcz118_0
          try clear hcz118_1
          try clear hcz118_2
          try clear hcz118_3
          try clear hcz123_0
          try clear hcz123_1
          try clear hcz123_2
          try clear hcz123_3
          try clear hcz129_0
          try clear hcz129_1
          try clear hcz129_2
          try clear hcz129_3
          try clear hcz12_0
          try clear hcz12_1
          try clear hcz12_2
          try clear hcz138_0
          try clear hcz138_1
          try clear hcz138_2
          try clear hcz138_3
          try clear hcz143_0
          try clear hcz143_1
          try clear hcz143_2
          try clear hcz143_3
          try clear hcz147_0
          try clear hcz147_1
          try clear hcz147_2
          try clear hcz147_3
          try clear hcz153_0
          try clear hcz153_1
          try clear hcz153_2
          try clear hcz153_3
          try clear hcz158_0
          try clear hcz158_1
          try clear hcz158_2
          try clear hcz158_3
          try clear hcz162_0
          try clear hcz162_1
          try clear hcz162_2
          try clear hcz162_3
          try clear hcz168_0
          try clear hcz168_1
          try clear hcz168_2
          try clear hcz168_3
          try clear hcz16_0
          try clear hcz16_1
          try clear hcz16_2
          try clear hcz173_0
          try clear hcz173_1
          try clear hcz173_2
          try clear hcz173_3
          try clear hcz177_0
          try clear hcz177_1
          try clear hcz177_2
          try clear hcz177_3
          try clear hcz183_0
          try clear hcz183_1
          try clear hcz183_2
          try clear hcz183_3
          try clear hcz188_0
          try clear hcz188_1
          try clear hcz188_2
          try clear hcz188_3
          try clear hcz192_0
          try clear hcz192_1
          try clear hcz192_2
          try clear hcz192_3
          try clear hcz20_0
          try clear hcz20_1
          try clear hcz20_2
          try clear hcz22_0
          try clear hcz22_1
          try clear hcz22_2
          try clear hcz26_0
          try clear hcz26_1
          try clear hcz26_2
          try clear hcz28_0
          try clear hcz28_1
          try clear hcz28_2
          try clear hcz31_0
          try clear hcz31_1
          try clear hcz31_2
          try clear hcz33_0
          try clear hcz33_1
          try clear hcz33_2
          try clear hcz37_0
          try clear hcz37_1
          try clear hcz37_2
          try clear hcz37_3
          try clear hcz46_0
          try clear hcz46_1
          try clear hcz46_2
          try clear hcz48_0
          try clear hcz48_1
          try clear hcz48_2
          try clear hcz53_0
          try clear hcz53_1
          try clear hcz53_2
          try clear hcz53_3
          try clear hcz61_0
          try clear hcz61_1
          try clear hcz61_2
          try clear hcz61_3
          try clear hcz66_0
          try clear hcz66_1
          try clear hcz66_2
          try clear hcz66_3
          try clear hcz72_0
          try clear hcz72_1
          try clear hcz72_2
          try clear hcz72_3
          try clear hcz80_0
          try clear hcz80_1
          try clear hcz80_2
          try clear hcz80_3
          try clear hcz85_0
          try clear hcz85_1
          try clear hcz85_2
          try clear hcz85_3
          try clear hcz91_0
          try clear hcz91_1
          try clear hcz91_2
          try clear hcz91_3
          try clear hcz99_0
          try clear hcz99_1
          try clear hcz99_2
          try clear hcz99_3
          try clear hfz104_0
          try clear hfz104_1
          try clear hfz104_2
          try clear hfz104_3
          try clear hfz10_0
          try clear hfz10_1
          try clear hfz10_2
          try clear hfz110_0
          try clear hfz110_1
          try clear hfz110_2
          try clear hfz110_3
          try clear hfz118_0
          try clear hfz118_1
          try clear hfz118_2
          try clear hfz118_3
          try clear hfz123_0
          try clear hfz123_1
          try clear hfz123_2
          try clear hfz123_3
          try clear hfz129_0
          try clear hfz129_1
          try clear hfz129_2
          try clear hfz129_3
          try clear hfz12_0
          try clear hfz12_1
          try clear hfz12_2
          try clear hfz138_0
          try clear hfz138_1
          try clear hfz138_2
          try clear hfz138_3
          try clear hfz143_0
          try clear hfz143_1
          try clear hfz143_2
          try clear hfz143_3
          try clear hfz147_0
          try clear hfz147_1
          try clear hfz147_2
          try clear hfz147_3
          try clear hfz153_0
          try clear hfz153_1
          try clear hfz153_2
          try clear hfz153_3
          try clear hfz158_0
          try clear hfz158_1
          try clear hfz158_2
          try clear hfz158_3
          try clear hfz162_0
          try clear hfz162_1
          try clear hfz162_2
          try clear hfz162_3
          try clear hfz168_0
          try clear hfz168_1
          try clear hfz168_2
          try clear hfz168_3
          try clear hfz16_0
          try clear hfz16_1
          try clear hfz16_2
          try clear hfz173_0
          try clear hfz173_1
          try clear hfz173_2
          try clear hfz173_3
          try clear hfz177_0
          try clear hfz177_1
          try clear hfz177_2
          try clear hfz177_3
          try clear hfz183_0
          try clear hfz183_1
          try clear hfz183_2
          try clear hfz183_3
          try clear hfz188_0
          try clear hfz188_1
          try clear hfz188_2
          try clear hfz188_3
          try clear hfz192_0
          try clear hfz192_1
          try clear hfz192_2
          try clear hfz192_3
          try clear hfz20_0
          try clear hfz20_1
          try clear hfz20_2
          try clear hfz22_0
          try clear hfz22_1
          try clear hfz22_2
          try clear hfz26_0
          try clear hfz26_1
          try clear hfz26_2
          try clear hfz28_0
          try clear hfz28_1
          try clear hfz28_2
          try clear hfz31_0
          try clear hfz31_1
          try clear hfz31_2
          try clear hfz33_0
          try clear hfz33_1
          try clear hfz33_2
          try clear hfz37_0
          try clear hfz37_1
          try clear hfz37_2
          try clear hfz37_3
          try clear hfz46_0
          try clear hfz46_1
          try clear hfz46_2
          try clear hfz48_0
          try clear hfz48_1
          try clear hfz48_2
          try clear hfz53_0
          try clear hfz53_1
          try clear hfz53_2
          try clear hfz53_3
          try clear hfz61_0
          try clear hfz61_1
          try clear hfz61_2
          try clear hfz61_3
          try clear hfz66_0
          try clear hfz66_1
          try clear hfz66_2
          try clear hfz66_3
          try clear hfz72_0
          try clear hfz72_1
          try clear hfz72_2
          try clear hfz72_3
          try clear hfz80_0
          try clear hfz80_1
          try clear hfz80_2
          try clear hfz80_3
          try clear hfz85_0
          try clear hfz85_1
          try clear hfz85_2
          try clear hfz85_3
          try clear hfz91_0
          try clear hfz91_1
          try clear hfz91_2
          try clear hfz91_3
          try clear hfz99_0
          try clear hfz99_1
          try clear hfz99_2
          try clear hfz99_3
          try clear p2
          try clear p6
          try clear p64
          obtain ⟨x17_4, x133000_4, x133001_4, x133002_4, x133003_4, x138000_4, x138001_4, x138002_4, x138003_4, rfl, HA, HK4, BK130, BK131, BK132, BK137, HB⟩ := hrel
          cases gk with
          | zero => exact absurd HA.out (by simp [spec_l09Paired.l2])
          | succ k4 =>
           have H := HA.out
           clear HA
           simp only [spec_l09Paired.l2] at H
           by_cases c193 : x17_4 < 4
           ·rw [if_pos c193] at H
            have c193b0 : decide (x17_4 < 4) = true := decide_eq_true c193
            clear c193
            by_cases c194 : x17_4 = 0
            ·subst c194
             have H1 : (if x14_130 = 0 then (none) else ((spec_l01In.f (wrap64 (Int.tdiv x138000_4 x14_130)) (-1000) 1000).bind fun t146 => (if t146 = true then (spec_l09Paired.l2 k4 x14_130 (wrap64 (0 + 1)) (wrap64 (Int.tdiv x138000_4 x14_130)) x138001_4 x138002_4 x138003_4) else (some (0, 0, 0, 0, false))))) = some (r1, r2, r3, r4, r5) := by rw [if_pos rfl] at H; exact H
             clear H
             have H := H1
             clear H1
             by_cases c195 : x14_130 = 0
             ·rw [if_pos c195] at H
              exact absurd H (by simp)
             ·rw [if_neg c195] at H
              have c195b0 : (x14_130 == 0) = false := beq_eq_false_iff_ne.mpr c195
              have c195b1 : (x14_130 != 0) = true := bne_iff_ne.mpr c195
              replace H := Option.bind_eq_some_iff.mp H
              obtain ⟨t146, A1960, H⟩ := H
              replace H : (if t146 = true then (spec_l09Paired.l2 k4 x14_130 (wrap64 (0 + 1)) (wrap64 (Int.tdiv x138000_4 x14_130)) x138001_4 x138002_4 x138003_4) else (some (0, 0, 0, 0, false))) = some (r1, r2, r3, r4, r5) := H
              have A196 := Aside0.mk A1960
              clear A1960
              by_cases c197 : t146 = true
              ·subst c197
               have H1 : (spec_l09Paired.l2 k4 x14_130 (wrap64 (0 + 1)) (wrap64 (Int.tdiv x138000_4 x14_130)) x138001_4 x138002_4 x138003_4) = some (r1, r2, r3, r4, r5) := by rw [if_pos rfl] at H; exact H
               clear H
               have H := H1
               clear H1
               have H' := Aside0.mk H
               clear H
               have hnb198 := NB137_130.out
               have hnc198 := NB130_137.out
               have hnb199 := NB137_131.out
               have hnc199 := NB131_137.out
               have hnb200 := NB137_132.out
               have hnc200 := NB132_137.out
               have hcz201_0 : wr.cell? ⟨gb137, 0, none⟩ = some (.int .i64 x138000_4) := (blk_cell BK137.out 0).trans rfl
               have hcz201_1 : wr.cell? ⟨gb137, 1, none⟩ = some (.int .i64 x138001_4) := (blk_cell BK137.out 1).trans rfl
               have hcz201_2 : wr.cell? ⟨gb137, 2, none⟩ = some (.int .i64 x138002_4) := (blk_cell BK137.out 2).trans rfl
               have hcz201_3 : wr.cell? ⟨gb137, 3, none⟩ = some (.int .i64 x138003_4) := (blk_cell BK137.out 3).trans rfl
               have hfz201_0 := blk_frozen BK137.out 0
               have hfz201_1 := blk_frozen BK137.out 1
               have hfz201_2 := blk_frozen BK137.out 2
               have hfz201_3 := blk_frozen BK137.out 3
               go_wp2_with (first | (go_at_call 66; (with_reducible refine (spec_l01In.calls (wrap64 (Int.tdiv x138000_4 x14_130)) (-1000) 1000 true _ A196.out).mono ?_); rintro e w' ⟨rfl, ⟨nd, rfl⟩⟩; (try first | exact ⟨rfl, _, World.drewN_drewN _ _ _⟩ | exact ⟨rfl, _, Eq.trans (World.drewN_drewN _ _ _) (congrArg (World.drewN _) (Nat.add_assoc _ _ _))⟩)))
               repeat (go_quiet (first | (go_at_call 66; (with_reducible refine (spec_l01In.calls (wrap64 (Int.tdiv x138000_4 x14_130)) (-1000) 1000 true _ A196.out).mono ?_); rintro e w' ⟨rfl, ⟨nd, rfl⟩⟩; (try first | exact ⟨rfl, _, World.drewN_drewN _ _ _⟩ | exact ⟨rfl, _, Eq.trans (World.drewN_drewN _ _ _) (congrArg (World.drewN _) (Nat.add_assoc _ _ _))⟩))); try go_wp2_with (first | (go_at_call 66; (with_reducible refine (spec_l01In.calls (wrap64 (Int.tdiv x138000_4 x14_130)) (-1000) 1000 true _ A196.out).mono ?_); rintro e w' ⟨rfl, ⟨nd, rfl⟩⟩; (try first | exact ⟨rfl, _, World.drewN_drewN _ _ _⟩ | exact ⟨rfl, _, Eq.trans (World.drewN_drewN _ _ _) (congrArg (World.drewN _) (Nat.add_assoc _ _ _))⟩))))
               go_roundg k4
               case measure => have := HJ3.out; have := HK2.out; have := HJ130.out; have := HK4.out; omega
               case rel => exact ⟨(wrap64 (0 + 1)), (x133000_4), (x133001_4), (x133002_4), (x133003_4), (wrap64 (Int.tdiv x138000_4 x14_130)), (x138001_4), (x138002_4), (x138003_4), (by first | rfl | (simp; done) | (simp [*]; done) | (simp [wrap64]; done)), H', ⟨by have := HJ3.out; have := HK2.out; have := HJ130.out; have := HK4.out; omega⟩, ⟨by (with_reducible repeat first | apply blk_drewN | apply blk_drew | apply blk_alloc); refine blk_far ?_ NB130_137.out _; (with_reducible repeat first | apply blk_drewN | apply blk_drew | apply blk_alloc); exact BK130.out⟩, ⟨by (with_reducible repeat first | apply blk_drewN | apply blk_drew | apply blk_alloc); refine blk_far ?_ NB131_137.out _; (with_reducible repeat first | apply blk_drewN | apply blk_drew | apply blk_alloc); exact BK131.out⟩, ⟨by (with_reducible repeat first | apply blk_drewN | apply blk_drew | apply blk_alloc); refine blk_far ?_ NB132_137.out _; (with_reducible repeat first | apply blk_drewN | apply blk_drew | apply blk_alloc); exact BK132.out⟩, ⟨by (with_reducible repeat first | apply blk_drewN | apply blk_drew | apply blk_alloc); refine blk_put (cs := #[.int .i64 x138000_4, .int .i64 x138001_4, .int .i64 x138002_4, .int .i64 x138003_4]) ?_ 0 _ rfl; (with_reducible repeat first | apply blk_drewN | apply blk_drew | apply blk_alloc); exact BK137.out⟩, ⟨by repeat (first | (with_reducible first | exact HB.out | apply below_alloc | apply pw_below_drewN | apply below_drew1 | refine below_set ?_ GE130.out | refine below_set ?_ GE131.out | refine below_set ?_ GE132.out | refine below_set ?_ GE137.out) | exact HB.out)⟩⟩
              ·replace c197 := Bool.eq_false_iff.mpr c197
               subst c197
               have H1 : (some (0, 0, 0, 0, false)) = some (r1, r2, r3, r4, r5) := by rw [if_neg (show ¬ (false = true) by decide)] at H; exact H
               clear H
               have H := H1
               clear H1
               simp only [Option.some.injEq, Prod.mk.injEq] at H
               obtain ⟨rfl, rfl, rfl, rfl, rfl⟩ := H
               have hnb202 := NB137_130.out
               have hnc202 := NB130_137.out
               have hnb203 := NB137_131.out
               have hnc203 := NB131_137.out
               have hnb204 := NB137_132.out
               have hnc204 := NB132_137.out
               have hcz205_0 : wr.cell? ⟨gb137, 0, none⟩ = some (.int .i64 x138000_4) := (blk_cell BK137.out 0).trans rfl
               have hcz205_1 : wr.cell? ⟨gb137, 1, none⟩ = some (.int .i64 x138001_4) := (blk_cell BK137.out 1).trans rfl
               have hcz205_2 : wr.cell? ⟨gb137, 2, none⟩ = some (.int .i64 x138002_4) := (blk_cell BK137.out 2).trans rfl
               have hcz205_3 : wr.cell? ⟨gb137, 3, none⟩ = some (.int .i64 x138003_4) := (blk_cell BK137.out 3).trans rfl
               have hfz205_0 := blk_frozen BK137.out 0
               have hfz205_1 := blk_frozen BK137.out 1
               have hfz205_2 := blk_frozen BK137.out 2
               have hfz205_3 := blk_frozen BK137.out 3
               go_wp2_with (first | (go_at_call 66; (with_reducible refine (spec_l01In.calls (wrap64 (Int.tdiv x138000_4 x14_130)) (-1000) 1000 false _ A196.out).mono ?_); rintro e w' ⟨rfl, ⟨nd, rfl⟩⟩; (try first | exact ⟨rfl, _, World.drewN_drewN _ _ _⟩ | exact ⟨rfl, _, Eq.trans (World.drewN_drewN _ _ _) (congrArg (World.drewN _) (Nat.add_assoc _ _ _))⟩); have hnb206 := NB132_130.out; have hnc206 := NB130_132.out; have hnb207 := NB132_131.out; have hnc207 := NB131_132.out; have hcz208_0 : wr.cell? ⟨gb132, 0, none⟩ = some (.int .i64 x133000_4) := (blk_cell BK132.out 0).trans rfl; have hcz208_1 : wr.cell? ⟨gb132, 1, none⟩ = some (.int .i64 x133001_4) := (blk_cell BK132.out 1).trans rfl; have hcz208_2 : wr.cell? ⟨gb132, 2, none⟩ = some (.int .i64 x133002_4) := (blk_cell BK132.out 2).trans rfl; have hcz208_3 : wr.cell? ⟨gb132, 3, none⟩ = some (.int .i64 x133003_4) := (blk_cell BK132.out 3).trans rfl; have hfz208_0 := blk_frozen BK132.out 0; have hfz208_1 := blk_frozen BK132.out 1; have hfz208_2 := blk_frozen BK132.out 2; have hfz208_3 := blk_frozen BK132.out 3))
               repeat (go_quiet (first | (go_at_call 66; (with_reducible refine (spec_l01In.calls (wrap64 (Int.tdiv x138000_4 x14_130)) (-1000) 1000 false _ A196.out).mono ?_); rintro e w' ⟨rfl, ⟨nd, rfl⟩⟩; (try first | exact ⟨rfl, _, World.drewN_drewN _ _ _⟩ | exact ⟨rfl, _, Eq.trans (World.drewN_drewN _ _ _) (congrArg (World.drewN _) (Nat.add_assoc _ _ _))⟩); have hnb206 := NB132_130.out; have hnc206 := NB130_132.out; have hnb207 := NB132_131.out; have hnc207 := NB131_132.out; have hcz208_0 : wr.cell? ⟨gb132, 0, none⟩ = some (.int .i64 x133000_4) := (blk_cell BK132.out 0).trans rfl; have hcz208_1 : wr.cell? ⟨gb132, 1, none⟩ = some (.int .i64 x133001_4) := (blk_cell BK132.out 1).trans rfl; have hcz208_2 : wr.cell? ⟨gb132, 2, none⟩ = some (.int .i64 x133002_4) := (blk_cell BK132.out 2).trans rfl; have hcz208_3 : wr.cell? ⟨gb132, 3, none⟩ = some (.int .i64 x133003_4) := (blk_cell BK132.out 3).trans rfl; have hfz208_0 := blk_frozen BK132.out 0; have hfz208_1 := blk_frozen BK132.out 1; have hfz208_2 := blk_frozen BK132.out 2; have hfz208_3 := blk_frozen BK132.out 3)); try go_wp2_with (first | (go_at_call 66; (with_reducible refine (spec_l01In.calls (wrap64 (Int.tdiv x138000_4 x14_130)) (-1000) 1000 false _ A196.out).mono ?_); rintro e w' ⟨rfl, ⟨nd, rfl⟩⟩; (try first | exact ⟨rfl, _, World.drewN_drewN _ _ _⟩ | exact ⟨rfl, _, Eq.trans (World.drewN_drewN _ _ _) (congrArg (World.drewN _) (Nat.add_assoc _ _ _))⟩); have hnb206 := NB132_130.out; have hnc206 := NB130_132.out; have hnb207 := NB132_131.out; have hnc207 := NB131_132.out; have hcz208_0 : wr.cell? ⟨gb132, 0, none⟩ = some (.int .i64 x133000_4) := (blk_cell BK132.out 0).trans rfl; have hcz208_1 : wr.cell? ⟨gb132, 1, none⟩ = some (.int .i64 x133001_4) := (blk_cell BK132.out 1).trans rfl; have hcz208_2 : wr.cell? ⟨gb132, 2, none⟩ = some (.int .i64 x133002_4) := (blk_cell BK132.out 2).trans rfl; have hcz208_3 : wr.cell? ⟨gb132, 3, none⟩ = some (.int .i64 x133003_4) := (blk_cell BK132.out 3).trans rfl; have hfz208_0 := blk_frozen BK132.out 0; have hfz208_1 := blk_frozen BK132.out 1; have hfz208_2 := blk_frozen BK132.out 2; have hfz208_3 := blk_frozen BK132.out 3)))
               refine bodyPost_ret (results_ct rfl _ _ gb132 26 #[.int .i64 0, .int .i64 0, .int .i64 0, .int .i64 0] (0, 0) _ rfl (by (with_reducible repeat first | apply blk_drewN | apply blk_drew | apply blk_alloc); refine blk_put (cs := #[.int .i64 0, .int .i64 0, .int .i64 0, .int .i64 x133003_4]) ?_ 3 _ rfl; (with_reducible repeat first | apply blk_drewN | apply blk_drew | apply blk_alloc); refine blk_put (cs := #[.int .i64 0, .int .i64 0, .int .i64 x133002_4, .int .i64 x133003_4]) ?_ 2 _ rfl; (with_reducible repeat first | apply blk_drewN | apply blk_drew | apply blk_alloc); refine blk_put (cs := #[.int .i64 0, .int .i64 x133001_4, .int .i64 x133002_4, .int .i64 x133003_4]) ?_ 1 _ rfl; (with_reducible repeat first | apply blk_drewN | apply blk_drew | apply blk_alloc); refine blk_put (cs := #[.int .i64 x133000_4, .int .i64 x133001_4, .int .i64 x133002_4, .int .i64 x133003_4]) ?_ 0 _ rfl; (with_reducible repeat first | apply blk_drewN | apply blk_drew | apply blk_alloc); refine blk_far ?_ NB132_137.out _; (with_reducible repeat first | apply blk_drewN | apply blk_drew | apply blk_alloc); exact BK132.out) Try.underlying26 rfl (by kernel_rfl)) rfl ?_
               exact ⟨by first | rfl | (simp [errW_none, errW_some] <;> rfl) | (simp only [← hji40, ← hji42]; first | rfl | (simp [errW_none, errW_some] <;> rfl)) | (simp [*, errW_none, errW_some] <;> rfl), by repeat (first | (with_reducible first | exact HB.out | apply below_alloc | apply pw_below_drewN | apply below_drew1 | refine below_set ?_ GE130.out | refine below_set ?_ GE131.out | refine below_set ?_ GE132.out | refine below_set ?_ GE137.out) | exact HB.out)⟩
            ·rw [if_neg c194] at H
             have c194b0 : (x17_4 == 0) = false := beq_eq_false_iff_ne.mpr c194
             have c194b1 : (x17_4 != 0) = true := bne_iff_ne.mpr c194
             by_cases c209 : x17_4 = 1
             ·subst c209
              have H1 : (if x14_130 = 0 then (none) else ((spec_l01In.f (wrap64 (Int.tdiv x138001_4 x14_130)) (-1000) 1000).bind fun t147 => (if t147 = true then (spec_l09Paired.l2 k4 x14_130 (wrap64 (1 + 1)) x138000_4 (wrap64 (Int.tdiv x138001_4 x14_130)) x138002_4 x138003_4) else (some (0, 0, 0, 0, false))))) = some (r1, r2, r3, r4, r5) := by rw [if_pos rfl] at H; exact H
              clear H
              have H := H1
              clear H1
              by_cases c210 : x14_130 = 0
              ·rw [if_pos c210] at H
               exact absurd H (by simp)
              ·rw [if_neg c210] at H
               have c210b0 : (x14_130 == 0) = false := beq_eq_false_iff_ne.mpr c210
               have c210b1 : (x14_130 != 0) = true := bne_iff_ne.mpr c210
               replace H := Option.bind_eq_some_iff.mp H
               obtain ⟨t147, A2110, H⟩ := H
               replace H : (if t147 = true then (spec_l09Paired.l2 k4 x14_130 (wrap64 (1 + 1)) x138000_4 (wrap64 (Int.tdiv x138001_4 x14_130)) x138002_4 x138003_4) else (some (0, 0, 0, 0, false))) = some (r1, r2, r3, r4, r5) := H
               have A211 := Aside0.mk A2110
               clear A2110
               by_cases c212 : t147 = true
               ·subst c212
                have H1 : (spec_l09Paired.l2 k4 x14_130 (wrap64 (1 + 1)) x138000_4 (wrap64 (Int.tdiv x138001_4 x14_130)) x138002_4 x138003_4) = some (r1, r2, r3, r4, r5) := by rw [if_pos rfl] at H; exact H
                clear H
                have H := H1
                clear H1
                have H' := Aside0.mk H
                clear H
                have hnb213 := NB137_130.out
                have hnc213 := NB130_137.out
                have hnb214 := NB137_131.out
                have hnc214 := NB131_137.out
                have hnb215 := NB137_132.out
                have hnc215 := NB132_137.out
                have hcz216_0 : wr.cell? ⟨gb137, 0, none⟩ = some (.int .i64 x138000_4) := (blk_cell BK137.out 0).trans rfl
                have hcz216_1 : wr.cell? ⟨gb137, 1, none⟩ = some (.int .i64 x138001_4) := (blk_cell BK137.out 1).trans rfl
                have hcz216_2 : wr.cell? ⟨gb137, 2, none⟩ = some (.int .i64 x138002_4) := (blk_cell BK137.out 2).trans rfl
                have hcz216_3 : wr.cell? ⟨gb137, 3, none⟩ = some (.int .i64 x138003_4) := (blk_cell BK137.out 3).trans rfl
                have hfz216_0 := blk_frozen BK137.out 0
                have hfz216_1 := blk_frozen BK137.out 1
                have hfz216_2 := blk_frozen BK137.out 2
                have hfz216_3 := blk_frozen BK137.out 3
                go_wp2_with (first | (go_at_call 66; (with_reducible refine (spec_l01In.calls (wrap64 (Int.tdiv x138001_4 x14_130)) (-1000) 1000 true _ A211.out).mono ?_); rintro e w' ⟨rfl, ⟨nd, rfl⟩⟩; (try first | exact ⟨rfl, _, World.drewN_drewN _ _ _⟩ | exact ⟨rfl, _, Eq.trans (World.drewN_drewN _ _ _) (congrArg (World.drewN _) (Nat.add_assoc _ _ _))⟩)))
                repeat (go_quiet (first | (go_at_call 66; (with_reducible refine (spec_l01In.calls (wrap64 (Int.tdiv x138001_4 x14_130)) (-1000) 1000 true _ A211.out).mono ?_); rintro e w' ⟨rfl, ⟨nd, rfl⟩⟩; (try first | exact ⟨rfl, _, World.drewN_drewN _ _ _⟩ | exact ⟨rfl, _, Eq.trans (World.drewN_drewN _ _ _) (congrArg (World.drewN _) (Nat.add_assoc _ _ _))⟩))); try go_wp2_with (first | (go_at_call 66; (with_reducible refine (spec_l01In.calls (wrap64 (Int.tdiv x138001_4 x14_130)) (-1000) 1000 true _ A211.out).mono ?_); rintro e w' ⟨rfl, ⟨nd, rfl⟩⟩; (try first | exact ⟨rfl, _, World.drewN_drewN _ _ _⟩ | exact ⟨rfl, _, Eq.trans (World.drewN_drewN _ _ _) (congrArg (World.drewN _) (Nat.add_assoc _ _ _))⟩))))
                go_roundg k4
                case measure => have := HJ3.out; have := HK2.out; have := HJ130.out; have := HK4.out; omega
                case rel => exact ⟨(wrap64 (1 + 1)), (x133000_4), (x133001_4), (x133002_4), (x133003_4), (x138000_4), (wrap64 (Int.tdiv x138001_4 x14_130)), (x138002_4), (x138003_4), (by first | rfl | (simp; done) | (simp [*]; done) | (simp [wrap64]; done)), H', ⟨by have := HJ3.out; have := HK2.out; have := HJ130.out; have := HK4.out; omega⟩, ⟨by (with_reducible repeat first | apply blk_drewN | apply blk_drew | apply blk_alloc); refine blk_far ?_ NB130_137.out _; (with_reducible repeat first | apply blk_drewN | apply blk_drew | apply blk_alloc); exact BK130.out⟩, ⟨by (with_reducible repeat first | apply blk_drewN | apply blk_drew | apply blk_alloc); refine blk_far ?_ NB131_137.out _; (with_reducible repeat first | apply blk_drewN | apply blk_drew | apply blk_alloc); exact BK131.out⟩, ⟨by (with_reducible repeat first | apply blk_drewN | apply blk_drew | apply blk_alloc); refine blk_far ?_ NB132_137.out _; (with_reducible repeat first | apply blk_drewN | apply blk_drew | apply blk_alloc); exact BK132.out⟩, ⟨by (with_reducible repeat first | apply blk_drewN | apply blk_drew | apply blk_alloc); refine blk_put (cs := #[.int .i64 x138000_4, .int .i64 x138001_4, .int .i64 x138002_4, .int .i64 x138003_4]) ?_ 1 _ rfl; (with_reducible repeat first | apply blk_drewN | apply blk_drew | apply blk_alloc); exact BK137.out⟩, ⟨by repeat (first | (with_reducible first | exact HB.out | apply below_alloc | apply pw_below_drewN | apply below_drew1 | refine below_set ?_ GE130.out | refine below_set ?_ GE131.out | refine below_set ?_ GE132.out | refine below_set ?_ GE137.out) | exact HB.out)⟩⟩
               ·replace c212 := Bool.eq_false_iff.mpr c212
                subst c212
                have H1 : (some (0, 0, 0, 0, false)) = some (r1, r2, r3, r4, r5) := by rw [if_neg (show ¬ (false = true) by decide)] at H; exact H
                clear H
                have H := H1
                clear H1
                simp only [Option.some.injEq, Prod.mk.injEq] at H
                obtain ⟨rfl, rfl, rfl, rfl, rfl⟩ := H
                have hnb217 := NB137_130.out
                have hnc217 := NB130_137.out
                have hnb218 := NB137_131.out
                have hnc218 := NB131_137.out
                have hnb219 := NB137_132.out
                have hnc219 := NB132_137.out
                have hcz220_0 : wr.cell? ⟨gb137, 0, none⟩ = some (.int .i64 x138000_4) := (blk_cell BK137.out 0).trans rfl
                have hcz220_1 : wr.cell? ⟨gb137, 1, none⟩ = some (.int .i64 x138001_4) := (blk_cell BK137.out 1).trans rfl
                have hcz220_2 : wr.cell? ⟨gb137, 2, none⟩ = some (.int .i64 x138002_4) := (blk_cell BK137.out 2).trans rfl
                have hcz220_3 : wr.cell? ⟨gb137, 3, none⟩ = some (.int .i64 x138003_4) := (blk_cell BK137.out 3).trans rfl
                have hfz220_0 := blk_frozen BK137.out 0
                have hfz220_1 := blk_frozen BK137.out 1
                have hfz220_2 := blk_frozen BK137.out 2
                have hfz220_3 := blk_frozen BK137.out 3
                go_wp2_with (first | (go_at_call 66; (with_reducible refine (spec_l01In.calls (wrap64 (Int.tdiv x138001_4 x14_130)) (-1000) 1000 false _ A211.out).mono ?_); rintro e w' ⟨rfl, ⟨nd, rfl⟩⟩; (try first | exact ⟨rfl, _, World.drewN_drewN _ _ _⟩ | exact ⟨rfl, _, Eq.trans (World.drewN_drewN _ _ _) (congrArg (World.drewN _) (Nat.add_assoc _ _ _))⟩); have hnb221 := NB132_130.out; have hnc221 := NB130_132.out; have hnb222 := NB132_131.out; have hnc222 := NB131_132.out; have hcz223_0 : wr.cell? ⟨gb132, 0, none⟩ = some (.int .i64 x133000_4) := (blk_cell BK132.out 0).trans rfl; have hcz223_1 : wr.cell? ⟨gb132, 1, none⟩ = some (.int .i64 x133001_4) := (blk_cell BK132.out 1).trans rfl; have hcz223_2 : wr.cell? ⟨gb132, 2, none⟩ = some (.int .i64 x133002_4) := (blk_cell BK132.out 2).trans rfl; have hcz223_3 : wr.cell? ⟨gb132, 3, none⟩ = some (.int .i64 x133003_4) := (blk_cell BK132.out 3).trans rfl; have hfz223_0 := blk_frozen BK132.out 0; have hfz223_1 := blk_frozen BK132.out 1; have hfz223_2 := blk_frozen BK132.out 2; have hfz223_3 := blk_frozen BK132.out 3))
                repeat (go_quiet (first | (go_at_call 66; (with_reducible refine (spec_l01In.calls (wrap64 (Int.tdiv x138001_4 x14_130)) (-1000) 1000 false _ A211.out).mono ?_); rintro e w' ⟨rfl, ⟨nd, rfl⟩⟩; (try first | exact ⟨rfl, _, World.drewN_drewN _ _ _⟩ | exact ⟨rfl, _, Eq.trans (World.drewN_drewN _ _ _) (congrArg (World.drewN _) (Nat.add_assoc _ _ _))⟩); have hnb221 := NB132_130.out; have hnc221 := NB130_132.out; have hnb222 := NB132_131.out; have hnc222 := NB131_132.out; have hcz223_0 : wr.cell? ⟨gb132, 0, none⟩ = some (.int .i64 x133000_4) := (blk_cell BK132.out 0).trans rfl; have hcz223_1 : wr.cell? ⟨gb132, 1, none⟩ = some (.int .i64 x133001_4) := (blk_cell BK132.out 1).trans rfl; have hcz223_2 : wr.cell? ⟨gb132, 2, none⟩ = some (.int .i64 x133002_4) := (blk_cell BK132.out 2).trans rfl; have hcz223_3 : wr.cell? ⟨gb132, 3, none⟩ = some (.int .i64 x133003_4) := (blk_cell BK132.out 3).trans rfl; have hfz223_0 := blk_frozen BK132.out 0; have hfz223_1 := blk_frozen BK132.out 1; have hfz223_2 := blk_frozen BK132.out 2; have hfz223_3 := blk_frozen BK132.out 3)); try go_wp2_with (first | (go_at_call 66; (with_reducible refine (spec_l01In.calls (wrap64 (Int.tdiv x138001_4 x14_130)) (-1000) 1000 false _ A211.out).mono ?_); rintro e w' ⟨rfl, ⟨nd, rfl⟩⟩; (try first | exact ⟨rfl, _, World.drewN_drewN _ _ _⟩ | exact ⟨rfl, _, Eq.trans (World.drewN_drewN _ _ _) (congrArg (World.drewN _) (Nat.add_assoc _ _ _))⟩); have hnb221 := NB132_130.out; have hnc221 := NB130_132.out; have hnb222 := NB132_131.out; have hnc222 := NB131_132.out; have hcz223_0 : wr.cell? ⟨gb132, 0, none⟩ = some (.int .i64 x133000_4) := (blk_cell BK132.out 0).trans rfl; have hcz223_1 : wr.cell? ⟨gb132, 1, none⟩ = some (.int .i64 x133001_4) := (blk_cell BK132.out 1).trans rfl; have hcz223_2 : wr.cell? ⟨gb132, 2, none⟩ = some (.int .i64 x133002_4) := (blk_cell BK132.out 2).trans rfl; have hcz223_3 : wr.cell? ⟨gb132, 3, none⟩ = some (.int .i64 x133003_4) := (blk_cell BK132.out 3).trans rfl; have hfz223_0 := blk_frozen BK132.out 0; have hfz223_1 := blk_frozen BK132.out 1; have hfz223_2 := blk_frozen BK132.out 2; have hfz223_3 := blk_frozen BK132.out 3)))
                refine bodyPost_ret (results_ct rfl _ _ gb132 26 #[.int .i64 0, .int .i64 0, .int .i64 0, .int .i64 0] (0, 0) _ rfl (by (with_reducible repeat first | apply blk_drewN | apply blk_drew | apply blk_alloc); refine blk_put (cs := #[.int .i64 0, .int .i64 0, .int .i64 0, .int .i64 x133003_4]) ?_ 3 _ rfl; (with_reducible repeat first | apply blk_drewN | apply blk_drew | apply blk_alloc); refine blk_put (cs := #[.int .i64 0, .int .i64 0, .int .i64 x133002_4, .int .i64 x133003_4]) ?_ 2 _ rfl; (with_reducible repeat first | apply blk_drewN | apply blk_drew | apply blk_alloc); refine blk_put (cs := #[.int .i64 0, .int .i64 x133001_4, .int .i64 x133002_4, .int .i64 x133003_4]) ?_ 1 _ rfl; (with_reducible repeat first | apply blk_drewN | apply blk_drew | apply blk_alloc); refine blk_put (cs := #[.int .i64 x133000_4, .int .i64 x133001_4, .int .i64 x133002_4, .int .i64 x133003_4]) ?_ 0 _ rfl; (with_reducible repeat first | apply blk_drewN | apply blk_drew | apply blk_alloc); refine blk_far ?_ NB132_137.out _; (with_reducible repeat first | apply blk_drewN | apply blk_drew | apply blk_alloc); exact BK132.out) Try.underlying26 rfl (by kernel_rfl)) rfl ?_
                exact ⟨by first | rfl | (simp [errW_none, errW_some] <;> rfl) | (simp only [← hji40, ← hji42]; first | rfl | (simp [errW_none, errW_some] <;> rfl)) | (simp [*, errW_none, errW_some] <;> rfl), by repeat (first | (with_reducible first | exact HB.out | apply below_alloc | apply pw_below_drewN | apply below_drew1 | refine below_set ?_ GE130.out | refine below_set ?_ GE131.out | refine below_set ?_ GE132.out | refine below_set ?_ GE137.out) | exact HB.out)⟩
             ·rw [if_neg c209] at H
              have c209b0 : (x17_4 == 1) = false := beq_eq_false_iff_ne.mpr c209
              have c209b1 : (x17_4 != 1) = true := bne_iff_ne.mpr c209
              by_cases c224 : x17_4 = 2
              ·subst c224
               have H1 : (if x14_130 = 0 then (none) else ((spec_l01In.f (wrap64 (Int.tdiv x138002_4 x14_130)) (-1000) 1000).bind fun t148 => (if t148 = true then (spec_l09Paired.l2 k4 x14_130 (wrap64 (2 + 1)) x138000_4 x138001_4 (wrap64 (Int.tdiv x138002_4 x14_130)) x138003_4) else (some (0, 0, 0, 0, false))))) = some (r1, r2, r3, r4, r5) := by rw [if_pos rfl] at H; exact H
               clear H
               have H := H1
               clear H1
               by_cases c225 : x14_130 = 0
               ·rw [if_pos c225] at H
                exact absurd H (by simp)
               ·rw [if_neg c225] at H
                have c225b0 : (x14_130 == 0) = false := beq_eq_false_iff_ne.mpr c225
                have c225b1 : (x14_130 != 0) = true := bne_iff_ne.mpr c225
                replace H := Option.bind_eq_some_iff.mp H
                obtain ⟨t148, A2260, H⟩ := H
                replace H : (if t148 = true then (spec_l09Paired.l2 k4 x14_130 (wrap64 (2 + 1)) x138000_4 x138001_4 (wrap64 (Int.tdiv x138002_4 x14_130)) x138003_4) else (some (0, 0, 0, 0, false))) = some (r1, r2, r3, r4, r5) := H
                have A226 := Aside0.mk A2260
                clear A2260
                by_cases c227 : t148 = true
                ·subst c227
                 have H1 : (spec_l09Paired.l2 k4 x14_130 (wrap64 (2 + 1)) x138000_4 x138001_4 (wrap64 (Int.tdiv x138002_4 x14_130)) x138003_4) = some (r1, r2, r3, r4, r5) := by rw [if_pos rfl] at H; exact H
                 clear H
                 have H := H1
                 clear H1
                 have H' := Aside0.mk H
                 clear H
                 have hnb228 := NB137_130.out
                 have hnc228 := NB130_137.out
                 have hnb229 := NB137_131.out
                 have hnc229 := NB131_137.out
                 have hnb230 := NB137_132.out
                 have hnc230 := NB132_137.out
                 have hcz231_0 : wr.cell? ⟨gb137, 0, none⟩ = some (.int .i64 x138000_4) := (blk_cell BK137.out 0).trans rfl
                 have hcz231_1 : wr.cell? ⟨gb137, 1, none⟩ = some (.int .i64 x138001_4) := (blk_cell BK137.out 1).trans rfl
                 have hcz231_2 : wr.cell? ⟨gb137, 2, none⟩ = some (.int .i64 x138002_4) := (blk_cell BK137.out 2).trans rfl
                 have hcz231_3 : wr.cell? ⟨gb137, 3, none⟩ = some (.int .i64 x138003_4) := (blk_cell BK137.out 3).trans rfl
                 have hfz231_0 := blk_frozen BK137.out 0
                 have hfz231_1 := blk_frozen BK137.out 1
                 have hfz231_2 := blk_frozen BK137.out 2
                 have hfz231_3 := blk_frozen BK137.out 3
                 go_wp2_with (first | (go_at_call 66; (with_reducible refine (spec_l01In.calls (wrap64 (Int.tdiv x138002_4 x14_130)) (-1000) 1000 true _ A226.out).mono ?_); rintro e w' ⟨rfl, ⟨nd, rfl⟩⟩; (try first | exact ⟨rfl, _, World.drewN_drewN _ _ _⟩ | exact ⟨rfl, _, Eq.trans (World.drewN_drewN _ _ _) (congrArg (World.drewN _) (Nat.add_assoc _ _ _))⟩)))
                 repeat (go_quiet (first | (go_at_call 66; (with_reducible refine (spec_l01In.calls (wrap64 (Int.tdiv x138002_4 x14_130)) (-1000) 1000 true _ A226.out).mono ?_); rintro e w' ⟨rfl, ⟨nd, rfl⟩⟩; (try first | exact ⟨rfl, _, World.drewN_drewN _ _ _⟩ | exact ⟨rfl, _, Eq.trans (World.drewN_drewN _ _ _) (congrArg (World.drewN _) (Nat.add_assoc _ _ _))⟩))); try go_wp2_with (first | (go_at_call 66; (with_reducible refine (spec_l01In.calls (wrap64 (Int.tdiv x138002_4 x14_130)) (-1000) 1000 true _ A226.out).mono ?_); rintro e w' ⟨rfl, ⟨nd, rfl⟩⟩; (try first | exact ⟨rfl, _, World.drewN_drewN _ _ _⟩ | exact ⟨rfl, _, Eq.trans (World.drewN_drewN _ _ _) (congrArg (World.drewN _) (Nat.add_assoc _ _ _))⟩))))
                 go_roundg k4
                 case measure => have := HJ3.out; have := HK2.out; have := HJ130.out; have := HK4.out; omega
                 case rel => exact ⟨(wrap64 (2 + 1)), (x133000_4), (x133001_4), (x133002_4), (x133003_4), (x138000_4), (x138001_4), (wrap64 (Int.tdiv x138002_4 x14_130)), (x138003_4), (by first | rfl | (simp; done) | (simp [*]; done) | (simp [wrap64]; done)), H', ⟨by have := HJ3.out; have := HK2.out; have := HJ130.out; have := HK4.out; omega⟩, ⟨by (with_reducible repeat first | apply blk_drewN | apply blk_drew | apply blk_alloc); refine blk_far ?_ NB130_137.out _; (with_reducible repeat first | apply blk_drewN | apply blk_drew | apply blk_alloc); exact BK130.out⟩, ⟨by (with_reducible repeat first | apply blk_drewN | apply blk_drew | apply blk_alloc); refine blk_far ?_ NB131_137.out _; (with_reducible repeat first | apply blk_drewN | apply blk_drew | apply blk_alloc); exact BK131.out⟩, ⟨by (with_reducible repeat first | apply blk_drewN | apply blk_drew | apply blk_alloc); refine blk_far ?_ NB132_137.out _; (with_reducible repeat first | apply blk_drewN | apply blk_drew | apply blk_alloc); exact BK132.out⟩, ⟨by (with_reducible repeat first | apply blk_drewN | apply blk_drew | apply blk_alloc); refine blk_put (cs := #[.int .i64 x138000_4, .int .i64 x138001_4, .int .i64 x138002_4, .int .i64 x138003_4]) ?_ 2 _ rfl; (with_reducible repeat first | apply blk_drewN | apply blk_drew | apply blk_alloc); exact BK137.out⟩, ⟨by repeat (first | (with_reducible first | exact HB.out | apply below_alloc | apply pw_below_drewN | apply below_drew1 | refine below_set ?_ GE130.out | refine below_set ?_ GE131.out | refine below_set ?_ GE132.out | refine below_set ?_ GE137.out) | exact HB.out)⟩⟩
                ·replace c227 := Bool.eq_false_iff.mpr c227
                 subst c227
                 have H1 : (some (0, 0, 0, 0, false)) = some (r1, r2, r3, r4, r5) := by rw [if_neg (show ¬ (false = true) by decide)] at H; exact H
                 clear H
                 have H := H1
                 clear H1
                 simp only [Option.some.injEq, Prod.mk.injEq] at H
                 obtain ⟨rfl, rfl, rfl, rfl, rfl⟩ := H
                 have hnb232 := NB137_130.out
                 have hnc232 := NB130_137.out
                 have hnb233 := NB137_131.out
                 have hnc233 := NB131_137.out
                 have hnb234 := NB137_132.out
                 have hnc234 := NB132_137.out
                 have hcz235_0 : wr.cell? ⟨gb137, 0, none⟩ = some (.int .i64 x138000_4) := (blk_cell BK137.out 0).trans rfl
                 have hcz235_1 : wr.cell? ⟨gb137, 1, none⟩ = some (.int .i64 x138001_4) := (blk_cell BK137.out 1).trans rfl
                 have hcz235_2 : wr.cell? ⟨gb137, 2, none⟩ = some (.int .i64 x138002_4) := (blk_cell BK137.out 2).trans rfl
                 have hcz235_3 : wr.cell? ⟨gb137, 3, none⟩ = some (.int .i64 x138003_4) := (blk_cell BK137.out 3).trans rfl
                 have hfz235_0 := blk_frozen BK137.out 0
                 have hfz235_1 := blk_frozen BK137.out 1
                 have hfz235_2 := blk_frozen BK137.out 2
                 have hfz235_3 := blk_frozen BK137.out 3
                 go_wp2_with (first | (go_at_call 66; (with_reducible refine (spec_l01In.calls (wrap64 (Int.tdiv x138002_4 x14_130)) (-1000) 1000 false _ A226.out).mono ?_); rintro e w' ⟨rfl, ⟨nd, rfl⟩⟩; (try first | exact ⟨rfl, _, World.drewN_drewN _ _ _⟩ | exact ⟨rfl, _, Eq.trans (World.drewN_drewN _ _ _) (congrArg (World.drewN _) (Nat.add_assoc _ _ _))⟩); have hnb236 := NB132_130.out; have hnc236 := NB130_132.out; have hnb237 := NB132_131.out; have hnc237 := NB131_132.out; have hcz238_0 : wr.cell? ⟨gb132, 0, none⟩ = some (.int .i64 x133000_4) := (blk_cell BK132.out 0).trans rfl; have hcz238_1 : wr.cell? ⟨gb132, 1, none⟩ = some (.int .i64 x133001_4) := (blk_cell BK132.out 1).trans rfl; have hcz238_2 : wr.cell? ⟨gb132, 2, none⟩ = some (.int .i64 x133002_4) := (blk_cell BK132.out 2).trans rfl; have hcz238_3 : wr.cell? ⟨gb132, 3, none⟩ = some (.int .i64 x133003_4) := (blk_cell BK132.out 3).trans rfl; have hfz238_0 := blk_frozen BK132.out 0; have hfz238_1 := blk_frozen BK132.out 1; have hfz238_2 := blk_frozen BK132.out 2; have hfz238_3 := blk_frozen BK132.out 3))
                 repeat (go_quiet (first | (go_at_call 66; (with_reducible refine (spec_l01In.calls (wrap64 (Int.tdiv x138002_4 x14_130)) (-1000) 1000 false _ A226.out).mono ?_); rintro e w' ⟨rfl, ⟨nd, rfl⟩⟩; (try first | exact ⟨rfl, _, World.drewN_drewN _ _ _⟩ | exact ⟨rfl, _, Eq.trans (World.drewN_drewN _ _ _) (congrArg (World.drewN _) (Nat.add_assoc _ _ _))⟩); have hnb236 := NB132_130.out; have hnc236 := NB130_132.out; have hnb237 := NB132_131.out; have hnc237 := NB131_132.out; have hcz238_0 : wr.cell? ⟨gb132, 0, none⟩ = some (.int .i64 x133000_4) := (blk_cell BK132.out 0).trans rfl; have hcz238_1 : wr.cell? ⟨gb132, 1, none⟩ = some (.int .i64 x133001_4) := (blk_cell BK132.out 1).trans rfl; have hcz238_2 : wr.cell? ⟨gb132, 2, none⟩ = some (.int .i64 x133002_4) := (blk_cell BK132.out 2).trans rfl; have hcz238_3 : wr.cell? ⟨gb132, 3, none⟩ = some (.int .i64 x133003_4) := (blk_cell BK132.out 3).trans rfl; have hfz238_0 := blk_frozen BK132.out 0; have hfz238_1 := blk_frozen BK132.out 1; have hfz238_2 := blk_frozen BK132.out 2; have hfz238_3 := blk_frozen BK132.out 3)); try go_wp2_with (first | (go_at_call 66; (with_reducible refine (spec_l01In.calls (wrap64 (Int.tdiv x138002_4 x14_130)) (-1000) 1000 false _ A226.out).mono ?_); rintro e w' ⟨rfl, ⟨nd, rfl⟩⟩; (try first | exact ⟨rfl, _, World.drewN_drewN _ _ _⟩ | exact ⟨rfl, _, Eq.trans (World.drewN_drewN _ _ _) (congrArg (World.drewN _) (Nat.add_assoc _ _ _))⟩); have hnb236 := NB132_130.out; have hnc236 := NB130_132.out; have hnb237 := NB132_131.out; have hnc237 := NB131_132.out; have hcz238_0 : wr.cell? ⟨gb132, 0, none⟩ = some (.int .i64 x133000_4) := (blk_cell BK132.out 0).trans rfl; have hcz238_1 : wr.cell? ⟨gb132, 1, none⟩ = some (.int .i64 x133001_4) := (blk_cell BK132.out 1).trans rfl; have hcz238_2 : wr.cell? ⟨gb132, 2, none⟩ = some (.int .i64 x133002_4) := (blk_cell BK132.out 2).trans rfl; have hcz238_3 : wr.cell? ⟨gb132, 3, none⟩ = some (.int .i64 x133003_4) := (blk_cell BK132.out 3).trans rfl; have hfz238_0 := blk_frozen BK132.out 0; have hfz238_1 := blk_frozen BK132.out 1; have hfz238_2 := blk_frozen BK132.out 2; have hfz238_3 := blk_frozen BK132.out 3)))
                 refine bodyPost_ret (results_ct rfl _ _ gb132 26 #[.int .i64 0, .int .i64 0, .int .i64 0, .int .i64 0] (0, 0) _ rfl (by (with_reducible repeat first | apply blk_drewN | apply blk_drew | apply blk_alloc); refine blk_put (cs := #[.int .i64 0, .int .i64 0, .int .i64 0, .int .i64 x133003_4]) ?_ 3 _ rfl; (with_reducible repeat first | apply blk_drewN | apply blk_drew | apply blk_alloc); refine blk_put (cs := #[.int .i64 0, .int .i64 0, .int .i64 x133002_4, .int .i64 x133003_4]) ?_ 2 _ rfl; (with_reducible repeat first | apply blk_drewN | apply blk_drew | apply blk_alloc); refine blk_put (cs := #[.int .i64 0, .int .i64 x133001_4, .int .i64 x133002_4, .int .i64 x133003_4]) ?_ 1 _ rfl; (with_reducible repeat first | apply blk_drewN | apply blk_drew | apply blk_alloc); refine blk_put (cs := #[.int .i64 x133000_4, .int .i64 x133001_4, .int .i64 x133002_4, .int .i64 x133003_4]) ?_ 0 _ rfl; (with_reducible repeat first | apply blk_drewN | apply blk_drew | apply blk_alloc); refine blk_far ?_ NB132_137.out _; (with_reducible repeat first | apply blk_drewN | apply blk_drew | apply blk_alloc); exact BK132.out) Try.underlying26 rfl (by kernel_rfl)) rfl ?_
                 exact ⟨by first | rfl | (simp [errW_none, errW_some] <;> rfl) | (simp only [← hji40, ← hji42]; first | rfl | (simp [errW_none, errW_some] <;> rfl)) | (simp [*, errW_none, errW_some] <;> rfl), by repeat (first | (with_reducible first | exact HB.out | apply below_alloc | apply pw_below_drewN | apply below_drew1 | refine below_set ?_ GE130.out | refine below_set ?_ GE131.out | refine below_set ?_ GE132.out | refine below_set ?_ GE137.out) | exact HB.out)⟩
              ·rw [if_neg c224] at H
               have c224b0 : (x17_4 == 2) = false := beq_eq_false_iff_ne.mpr c224
               have c224b1 : (x17_4 != 2) = true := bne_iff_ne.mpr c224
               by_cases c239 : x17_4 = 3
               ·subst c239
                have H1 : (if x14_130 = 0 then (none) else ((spec_l01In.f (wrap64 (Int.tdiv x138003_4 x14_130)) (-1000) 1000).bind fun t149 => (if t149 = true then (spec_l09Paired.l2 k4 x14_130 (wrap64 (3 + 1)) x138000_4 x138001_4 x138002_4 (wrap64 (Int.tdiv x138003_4 x14_130))) else (some (0, 0, 0, 0, false))))) = some (r1, r2, r3, r4, r5) := by rw [if_pos rfl] at H; exact H
                clear H
                have H := H1
                clear H1
                by_cases c240 : x14_130 = 0
                ·rw [if_pos c240] at H
                 exact absurd H (by simp)
                ·rw [if_neg c240] at H
                 have c240b0 : (x14_130 == 0) = false := beq_eq_false_iff_ne.mpr c240
                 have c240b1 : (x14_130 != 0) = true := bne_iff_ne.mpr c240
                 replace H := Option.bind_eq_some_iff.mp H
                 obtain ⟨t149, A2410, H⟩ := H
                 replace H : (if t149 = true then (spec_l09Paired.l2 k4 x14_130 (wrap64 (3 + 1)) x138000_4 x138001_4 x138002_4 (wrap64 (Int.tdiv x138003_4 x14_130))) else (some (0, 0, 0, 0, false))) = some (r1, r2, r3, r4, r5) := H
                 have A241 := Aside0.mk A2410
                 clear A2410
                 by_cases c242 : t149 = true
                 ·subst c242
                  have H1 : (spec_l09Paired.l2 k4 x14_130 (wrap64 (3 + 1)) x138000_4 x138001_4 x138002_4 (wrap64 (Int.tdiv x138003_4 x14_130))) = some (r1, r2, r3, r4, r5) := by rw [if_pos rfl] at H; exact H
                  clear H
                  have H := H1
                  clear H1
                  have H' := Aside0.mk H
                  clear H
                  have hnb243 := NB137_130.out
                  have hnc243 := NB130_137.out
                  have hnb244 := NB137_131.out
                  have hnc244 := NB131_137.out
                  have hnb245 := NB137_132.out
                  have hnc245 := NB132_137.out
                  have hcz246_0 : wr.cell? ⟨gb137, 0, none⟩ = some (.int .i64 x138000_4) := (blk_cell BK137.out 0).trans rfl
                  have hcz246_1 : wr.cell? ⟨gb137, 1, none⟩ = some (.int .i64 x138001_4) := (blk_cell BK137.out 1).trans rfl
                  have hcz246_2 : wr.cell? ⟨gb137, 2, none⟩ = some (.int .i64 x138002_4) := (blk_cell BK137.out 2).trans rfl
                  have hcz246_3 : wr.cell? ⟨gb137, 3, none⟩ = some (.int .i64 x138003_4) := (blk_cell BK137.out 3).trans rfl
                  have hfz246_0 := blk_frozen BK137.out 0
                  have hfz246_1 := blk_frozen BK137.out 1
                  have hfz246_2 := blk_frozen BK137.out 2
                  have hfz246_3 := blk_frozen BK137.out 3
                  go_wp2_with (first | (go_at_call 66; (with_reducible refine (spec_l01In.calls (wrap64 (Int.tdiv x138003_4 x14_130)) (-1000) 1000 true _ A241.out).mono ?_); rintro e w' ⟨rfl, ⟨nd, rfl⟩⟩; (try first | exact ⟨rfl, _, World.drewN_drewN _ _ _⟩ | exact ⟨rfl, _, Eq.trans (World.drewN_drewN _ _ _) (congrArg (World.drewN _) (Nat.add_assoc _ _ _))⟩)))
                  repeat (go_quiet (first | (go_at_call 66; (with_reducible refine (spec_l01In.calls (wrap64 (Int.tdiv x138003_4 x14_130)) (-1000) 1000 true _ A241.out).mono ?_); rintro e w' ⟨rfl, ⟨nd, rfl⟩⟩; (try first | exact ⟨rfl, _, World.drewN_drewN _ _ _⟩ | exact ⟨rfl, _, Eq.trans (World.drewN_drewN _ _ _) (congrArg (World.drewN _) (Nat.add_assoc _ _ _))⟩))); try go_wp2_with (first | (go_at_call 66; (with_reducible refine (spec_l01In.calls (wrap64 (Int.tdiv x138003_4 x14_130)) (-1000) 1000 true _ A241.out).mono ?_); rintro e w' ⟨rfl, ⟨nd, rfl⟩⟩; (try first | exact ⟨rfl, _, World.drewN_drewN _ _ _⟩ | exact ⟨rfl, _, Eq.trans (World.drewN_drewN _ _ _) (congrArg (World.drewN _) (Nat.add_assoc _ _ _))⟩))))
                  go_roundg k4
                  case measure => have := HJ3.out; have := HK2.out; have := HJ130.out; have := HK4.out; omega
                  case rel => exact ⟨(wrap64 (3 + 1)), (x133000_4), (x133001_4), (x133002_4), (x133003_4), (x138000_4), (x138001_4), (x138002_4), (wrap64 (Int.tdiv x138003_4 x14_130)), (by first | rfl | (simp; done) | (simp [*]; done) | (simp [wrap64]; done)), H', ⟨by have := HJ3.out; have := HK2.out; have := HJ130.out; have := HK4.out; omega⟩, ⟨by (with_reducible repeat first | apply blk_drewN | apply blk_drew | apply blk_alloc); refine blk_far ?_ NB130_137.out _; (with_reducible repeat first | apply blk_drewN | apply blk_drew | apply blk_alloc); exact BK130.out⟩, ⟨by (with_reducible repeat first | apply blk_drewN | apply blk_drew | apply blk_alloc); refine blk_far ?_ NB131_137.out _; (with_reducible repeat first | apply blk_drewN | apply blk_drew | apply blk_alloc); exact BK131.out⟩, ⟨by (with_reducible repeat first | apply blk_drewN | apply blk_drew | apply blk_alloc); refine blk_far ?_ NB132_137.out _; (with_reducible repeat first | apply blk_drewN | apply blk_drew | apply blk_alloc); exact BK132.out⟩, ⟨by (with_reducible repeat first | apply blk_drewN | apply blk_drew | apply blk_alloc); refine blk_put (cs := #[.int .i64 x138000_4, .int .i64 x138001_4, .int .i64 x138002_4, .int .i64 x138003_4]) ?_ 3 _ rfl; (with_reducible repeat first | apply blk_drewN | apply blk_drew | apply blk_alloc); exact BK137.out⟩, ⟨by repeat (first | (with_reducible first | exact HB.out | apply below_alloc | apply pw_below_drewN | apply below_drew1 | refine below_set ?_ GE130.out | refine below_set ?_ GE131.out | refine below_set ?_ GE132.out | refine below_set ?_ GE137.out) | exact HB.out)⟩⟩
                 ·replace c242 := Bool.eq_false_iff.mpr c242
                  subst c242
                  have H1 : (some (0, 0, 0, 0, false)) = some (r1, r2, r3, r4, r5) := by rw [if_neg (show ¬ (false = true) by decide)] at H; exact H
                  clear H
                  have H := H1
                  clear H1
                  simp only [Option.some.injEq, Prod.mk.injEq] at H
                  obtain ⟨rfl, rfl, rfl, rfl, rfl⟩ := H
                  have hnb247 := NB137_130.out
                  have hnc247 := NB130_137.out
                  have hnb248 := NB137_131.out
                  have hnc248 := NB131_137.out
                  have hnb249 := NB137_132.out
                  have hnc249 := NB132_137.out
                  have hcz250_0 : wr.cell? ⟨gb137, 0, none⟩ = some (.int .i64 x138000_4) := (blk_cell BK137.out 0).trans rfl
                  have hcz250_1 : wr.cell? ⟨gb137, 1, none⟩ = some (.int .i64 x138001_4) := (blk_cell BK137.out 1).trans rfl
                  have hcz250_2 : wr.cell? ⟨gb137, 2, none⟩ = some (.int .i64 x138002_4) := (blk_cell BK137.out 2).trans rfl
                  have hcz250_3 : wr.cell? ⟨gb137, 3, none⟩ = some (.int .i64 x138003_4) := (blk_cell BK137.out 3).trans rfl
                  have hfz250_0 := blk_frozen BK137.out 0
                  have hfz250_1 := blk_frozen BK137.out 1
                  have hfz250_2 := blk_frozen BK137.out 2
                  have hfz250_3 := blk_frozen BK137.out 3
                  go_wp2_with (first | (go_at_call 66; (with_reducible refine (spec_l01In.calls (wrap64 (Int.tdiv x138003_4 x14_130)) (-1000) 1000 false _ A241.out).mono ?_); rintro e w' ⟨rfl, ⟨nd, rfl⟩⟩; (try first | exact ⟨rfl, _, World.drewN_drewN _ _ _⟩ | exact ⟨rfl, _, Eq.trans (World.drewN_drewN _ _ _) (congrArg (World.drewN _) (Nat.add_assoc _ _ _))⟩); have hnb251 := NB132_130.out; have hnc251 := NB130_132.out; have hnb252 := NB132_131.out; have hnc252 := NB131_132.out; have hcz253_0 : wr.cell? ⟨gb132, 0, none⟩ = some (.int .i64 x133000_4) := (blk_cell BK132.out 0).trans rfl; have hcz253_1 : wr.cell? ⟨gb132, 1, none⟩ = some (.int .i64 x133001_4) := (blk_cell BK132.out 1).trans rfl; have hcz253_2 : wr.cell? ⟨gb132, 2, none⟩ = some (.int .i64 x133002_4) := (blk_cell BK132.out 2).trans rfl; have hcz253_3 : wr.cell? ⟨gb132, 3, none⟩ = some (.int .i64 x133003_4) := (blk_cell BK132.out 3).trans rfl; have hfz253_0 := blk_frozen BK132.out 0; have hfz253_1 := blk_frozen BK132.out 1; have hfz253_2 := blk_frozen BK132.out 2; have hfz253_3 := blk_frozen BK132.out 3))
                  repeat (go_quiet (first | (go_at_call 66; (with_reducible refine (spec_l01In.calls (wrap64 (Int.tdiv x138003_4 x14_130)) (-1000) 1000 false _ A241.out).mono ?_); rintro e w' ⟨rfl, ⟨nd, rfl⟩⟩; (try first | exact ⟨rfl, _, World.drewN_drewN _ _ _⟩ | exact ⟨rfl, _, Eq.trans (World.drewN_drewN _ _ _) (congrArg (World.drewN _) (Nat.add_assoc _ _ _))⟩); have hnb251 := NB132_130.out; have hnc251 := NB130_132.out; have hnb252 := NB132_131.out; have hnc252 := NB131_132.out; have hcz253_0 : wr.cell? ⟨gb132, 0, none⟩ = some (.int .i64 x133000_4) := (blk_cell BK132.out 0).trans rfl; have hcz253_1 : wr.cell? ⟨gb132, 1, none⟩ = some (.int .i64 x133001_4) := (blk_cell BK132.out 1).trans rfl; have hcz253_2 : wr.cell? ⟨gb132, 2, none⟩ = some (.int .i64 x133002_4) := (blk_cell BK132.out 2).trans rfl; have hcz253_3 : wr.cell? ⟨gb132, 3, none⟩ = some (.int .i64 x133003_4) := (blk_cell BK132.out 3).trans rfl; have hfz253_0 := blk_frozen BK132.out 0; have hfz253_1 := blk_frozen BK132.out 1; have hfz253_2 := blk_frozen BK132.out 2; have hfz253_3 := blk_frozen BK132.out 3)); try go_wp2_with (first | (go_at_call 66; (with_reducible refine (spec_l01In.calls (wrap64 (Int.tdiv x138003_4 x14_130)) (-1000) 1000 false _ A241.out).mono ?_); rintro e w' ⟨rfl, ⟨nd, rfl⟩⟩; (try first | exact ⟨rfl, _, World.drewN_drewN _ _ _⟩ | exact ⟨rfl, _, Eq.trans (World.drewN_drewN _ _ _) (congrArg (World.drewN _) (Nat.add_assoc _ _ _))⟩); have hnb251 := NB132_130.out; have hnc251 := NB130_132.out; have hnb252 := NB132_131.out; have hnc252 := NB131_132.out; have hcz253_0 : wr.cell? ⟨gb132, 0, none⟩ = some (.int .i64 x133000_4) := (blk_cell BK132.out 0).trans rfl; have hcz253_1 : wr.cell? ⟨gb132, 1, none⟩ = some (.int .i64 x133001_4) := (blk_cell BK132.out 1).trans rfl; have hcz253_2 : wr.cell? ⟨gb132, 2, none⟩ = some (.int .i64 x133002_4) := (blk_cell BK132.out 2).trans rfl; have hcz253_3 : wr.cell? ⟨gb132, 3, none⟩ = some (.int .i64 x133003_4) := (blk_cell BK132.out 3).trans rfl; have hfz253_0 := blk_frozen BK132.out 0; have hfz253_1 := blk_frozen BK132.out 1; have hfz253_2 := blk_frozen BK132.out 2; have hfz253_3 := blk_frozen BK132.out 3)))
                  refine bodyPost_ret (results_ct rfl _ _ gb132 26 #[.int .i64 0, .int .i64 0, .int .i64 0, .int .i64 0] (0, 0) _ rfl (by (with_reducible repeat first | apply blk_drewN | apply blk_drew | apply blk_alloc); refine blk_put (cs := #[.int .i64 0, .int .i64 0, .int .i64 0, .int .i64 x133003_4]) ?_ 3 _ rfl; (with_reducible repeat first | apply blk_drewN | apply blk_drew | apply blk_alloc); refine blk_put (cs := #[.int .i64 0, .int .i64 0, .int .i64 x133002_4, .int .i64 x133003_4]) ?_ 2 _ rfl; (with_reducible repeat first | apply blk_drewN | apply blk_drew | apply blk_alloc); refine blk_put (cs := #[.int .i64 0, .int .i64 x133001_4, .int .i64 x133002_4, .int .i64 x133003_4]) ?_ 1 _ rfl; (with_reducible repeat first | apply blk_drewN | apply blk_drew | apply blk_alloc); refine blk_put (cs := #[.int .i64 x133000_4, .int .i64 x133001_4, .int .i64 x133002_4, .int .i64 x133003_4]) ?_ 0 _ rfl; (with_reducible repeat first | apply blk_drewN | apply blk_drew | apply blk_alloc); refine blk_far ?_ NB132_137.out _; (with_reducible repeat first | apply blk_drewN | apply blk_drew | apply blk_alloc); exact BK132.out) Try.underlying26 rfl (by kernel_rfl)) rfl ?_
                  exact ⟨by first | rfl | (simp [errW_none, errW_some] <;> rfl) | (simp only [← hji40, ← hji42]; first | rfl | (simp [errW_none, errW_some] <;> rfl)) | (simp [*, errW_none, errW_some] <;> rfl), by repeat (first | (with_reducible first | exact HB.out | apply below_alloc | apply pw_below_drewN | apply below_drew1 | refine below_set ?_ GE130.out | refine below_set ?_ GE131.out | refine below_set ?_ GE132.out | refine below_set ?_ GE137.out) | exact HB.out)⟩
               ·rw [if_neg c239] at H
                exact absurd H (by simp)
           ·rw [if_neg c193] at H
            have c193b0 : decide (x17_4 < 4) = false := decide_eq_false c193
            clear c193
            simp only [Option.some.injEq, Prod.mk.injEq] at H
            obtain ⟨rfl, rfl, rfl, rfl, rfl⟩ := H
            have hnb254 := NB137_130.out
            have hnc254 := NB130_137.out
            have hnb255 := NB137_131.out
            have hnc255 := NB131_137.out
            have hnb256 := NB137_132.out
            have hnc256 := NB132_137.out
            have hcz257_0 : wr.cell? ⟨gb137, 0, none⟩ = some (.int .i64 x138000_4) := (blk_cell BK137.out 0).trans rfl
            have hcz257_1 : wr.cell? ⟨gb137, 1, none⟩ = some (.int .i64 x138001_4) := (blk_cell BK137.out 1).trans rfl
            have hcz257_2 : wr.cell? ⟨gb137, 2, none⟩ = some (.int .i64 x138002_4) := (blk_cell BK137.out 2).trans rfl
            have hcz257_3 : wr.cell? ⟨gb137, 3, none⟩ = some (.int .i64 x138003_4) := (blk_cell BK137.out 3).trans rfl
            have hfz257_0 := blk_frozen BK137.out 0
            have hfz257_1 := blk_frozen BK137.out 1
            have hfz257_2 := blk_frozen BK137.out 2
            have hfz257_3 := blk_frozen BK137.out 3
            have hnb258 := NB132_130.out
            have hnc258 := NB130_132.out
            have hnb259 := NB132_131.out
            have hnc259 := NB131_132.out
            have hcz260_0 : wr.cell? ⟨gb132, 0, none⟩ = some (.int .i64 x133000_4) := (blk_cell BK132.out 0).trans rfl
            have hcz260_1 : wr.cell? ⟨gb132, 1, none⟩ = some (.int .i64 x133001_4) := (blk_cell BK132.out 1).trans rfl
            have hcz260_2 : wr.cell? ⟨gb132, 2, none⟩ = some (.int .i64 x133002_4) := (blk_cell BK132.out 2).trans rfl
            have hcz260_3 : wr.cell? ⟨gb132, 3, none⟩ = some (.int .i64 x133003_4) := (blk_cell BK132.out 3).trans rfl
            have hfz260_0 := blk_frozen BK132.out 0
            have hfz260_1 := blk_frozen BK132.out 1
            have hfz260_2 := blk_frozen BK132.out 2
            have hfz260_3 := blk_frozen BK132.out 3
            go_wp2
            repeat (go_quiet (fail); try go_wp2)
            refine bodyPost_ret (results_ct rfl _ _ gb132 26 #[.int .i64 x138000_4, .int .i64 x138001_4, .int .i64 x138002_4, .int .i64 x138003_4] (0, 0) _ rfl (by (with_reducible repeat first | apply blk_drewN | apply blk_drew | apply blk_alloc); refine blk_put (cs := #[.int .i64 x138000_4, .int .i64 x138001_4, .int .i64 x138002_4, .int .i64 x133003_4]) ?_ 3 _ rfl; (with_reducible repeat first | apply blk_drewN | apply blk_drew | apply blk_alloc); refine blk_put (cs := #[.int .i64 x138000_4, .int .i64 x138001_4, .int .i64 x133002_4, .int .i64 x133003_4]) ?_ 2 _ rfl; (with_reducible repeat first | apply blk_drewN | apply blk_drew | apply blk_alloc); refine blk_put (cs := #[.int .i64 x138000_4, .int .i64 x133001_4, .int .i64 x133002_4, .int .i64 x133003_4]) ?_ 1 _ rfl; (with_reducible repeat first | apply blk_drewN | apply blk_drew | apply blk_alloc); refine blk_put (cs := #[.int .i64 x133000_4, .int .i64 x133001_4, .int .i64 x133002_4, .int .i64 x133003_4]) ?_ 0 _ rfl; (with_reducible repeat first | apply blk_drewN | apply blk_drew | apply blk_alloc); exact BK132.out) Try.underlying26 rfl (by kernel_rfl)) rfl ?_
            exact ⟨by first | rfl | (simp [errW_none, errW_some] <;> rfl) | (simp only [← hji40, ← hji42]; first | rfl | (simp [errW_none, errW_some] <;> rfl)) | (simp [*, errW_none, errW_some] <;> rfl), by repeat (first | (with_reducible first | exact HB.out | apply below_alloc | apply pw_below_drewN | apply below_drew1 | refine below_set ?_ GE130.out | refine below_set ?_ GE131.out | refine below_set ?_ GE132.out | refine below_set ?_ GE137.out) | exact HB.out)⟩

end Go.Proofs.Ytbelfnmmmllolab.QB
