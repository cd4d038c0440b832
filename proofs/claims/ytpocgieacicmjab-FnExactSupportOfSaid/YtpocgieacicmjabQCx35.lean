-- Written by a program of this session out of Lean's own print of the loaded program; Lean checks it.
import Derived.Test.YtpocgieacicmjabQCx0
import Derived.Test.YtpocgieacicmjabQCx30
import Derived.Test.YtpocgieacicmjabQCx31
import Derived.Test.YtpocgieacicmjabQCx32
import Derived.Test.YtpocgieacicmjabQCx33
import Derived.Test.YtpocgieacicmjabQCx34
namespace Go.Proofs.Ytpocgieacicmjab.QC
open Go.RowKit Go.Proofs.YtpocgieacicmjabW.PrintWords Go.Proofs.YtpocgieacicmjabW.PrintLast Go.Proofs.YtpocgieacicmjabW.PrintMore
attribute [local go_sem] isSome_setCell max2_int min2_int max_two min_two max_three min_three max_four min_four   -- for this text's walks alone
set_option linter.unusedVariables false
set_option linter.unusedSimpArgs false

/-! ### impl_isPartition: function 72 -/
mutual
def impl_isPartition.j0 : Nat → Int → List (S65) → Bool → Int → Int → Int → Option (Bool)
 | 0, _, _, _, _, _, _ => none
 | k + 1, x0, x2, x19, x220000, x220001, x220002 => if x19 = true then (some false) else (impl_isPartition.l0 k x0 x2 0 x2 (x2.length : Int) 0 x220000 x220001 x220002)
def impl_isPartition.l0 : Nat → Int → List (S65) → Int → List (S65) → Int → Int → Int → Int → Int → Option (Bool)
 | 0, _, _, _, _, _, _, _, _, _ => none
 | k + 1, x0, x2, x7, x20, x21, x22, x220000, x220001, x220002 => if x22 < x21 then (if 0 ≤ x22 then (if x22 < (x20.length : Int) then ((impl_IsBall.f k x0 ((rd_T65 x20 x22).f0.f0) ((rd_T65 x20 x22).f0.f1) ((rd_T65 x20 x22).f0.f2)).bind fun t223 => (if t223 = true then ((impl_holds.f k x0 x220000 x220001 x220002 ((rd_T65 x20 x22).f0.f0) ((rd_T65 x20 x22).f0.f1) ((rd_T65 x20 x22).f0.f2)).bind fun t224 => (if t224 = true then (if x22 > 0 then ((impl_mark.f k x0 ((rd_T65 x20 x22).f0.f0) ((rd_T65 x20 x22).f0.f1) ((rd_T65 x20 x22).f0.f2)).bind fun t225 => (if 0 ≤ (wrap64 (x22 - 1)) then (if (wrap64 (x22 - 1)) < (x2.length : Int) then ((impl_mark.f k x0 ((rd_T65 x2 (wrap64 (x22 - 1))).f0.f0) ((rd_T65 x2 (wrap64 (x22 - 1))).f0.f1) ((rd_T65 x2 (wrap64 (x22 - 1))).f0.f2)).bind fun t227 => (impl_isPartition.j2 k x0 x2 x7 x22 x20 x21 x22 (decide (t225 ≤ t227)) x220000 x220001 x220002 ((rd_T65 x20 x22).f0.f0) ((rd_T65 x20 x22).f0.f1) ((rd_T65 x20 x22).f0.f2) ((rd_T65 x20 x22).f1))) else (none)) else (none))) else (impl_isPartition.j2 k x0 x2 x7 x22 x20 x21 x22 false x220000 x220001 x220002 ((rd_T65 x20 x22).f0.f0) ((rd_T65 x20 x22).f0.f1) ((rd_T65 x20 x22).f0.f2) ((rd_T65 x20 x22).f1))) else (impl_isPartition.j2 k x0 x2 x7 x22 x20 x21 x22 true x220000 x220001 x220002 ((rd_T65 x20 x22).f0.f0) ((rd_T65 x20 x22).f0.f1) ((rd_T65 x20 x22).f0.f2) ((rd_T65 x20 x22).f1)))) else (impl_isPartition.j2 k x0 x2 x7 x22 x20 x21 x22 true x220000 x220001 x220002 ((rd_T65 x20 x22).f0.f0) ((rd_T65 x20 x22).f0.f1) ((rd_T65 x20 x22).f0.f2) ((rd_T65 x20 x22).f1)))) else (none)) else (none)) else ((impl_power.f k x0 12).bind fun t220 => (some (x7 == t220)))
def impl_isPartition.j2 : Nat → Int → List (S65) → Int → Int → List (S65) → Int → Int → Bool → Int → Int → Int → Int → Int → Int → Int → Option (Bool)
 | 0, _, _, _, _, _, _, _, _, _, _, _, _, _, _, _ => none
 | k + 1, x0, x2, x7, x8, x20, x21, x22, x58, x220000, x220001, x220002, x223000, x223001, x223002, x223003 => if x58 = true then (some false) else (if 0 ≤ x8 then (if x8 ≤ (x2.length : Int) then ((some (x2.take (x8 : Int).toNat : List (S65))).bind fun y228 => (impl_isPartition.l1 k x0 x2 x7 x20 x21 x22 y228 (y228.length : Int) 0 x220000 x220001 x220002 x223000 x223001 x223002 x223003)) else (none)) else (none))
def impl_isPartition.l1 : Nat → Int → List (S65) → Int → List (S65) → Int → Int → List (S65) → Int → Int → Int → Int → Int → Int → Int → Int → Int → Option (Bool)
 | 0, _, _, _, _, _, _, _, _, _, _, _, _, _, _, _, _ => none
 | k + 1, x0, x2, x7, x20, x21, x22, x61, x62, x63, x220000, x220001, x220002, x223000, x223001, x223002, x223003 => if x63 < x62 then (if 0 ≤ x63 then (if x63 < (x61.length : Int) then ((impl_apart.f k x0 x223000 x223001 x223002 ((rd_T65 x61 x63).f0.f0) ((rd_T65 x61 x63).f0.f1) ((rd_T65 x61 x63).f0.f2)).bind fun t234 => (if t234 = true then (impl_isPartition.l1 k x0 x2 x7 x20 x21 x22 x61 x62 (wrap64 (x63 + 1)) x220000 x220001 x220002 x223000 x223001 x223002 x223003) else (some false))) else (none)) else (none)) else ((impl_power.f k x0 (wrap64 ((wrap64 (12 - x223000)) + x220000))).bind fun t235 => (impl_isPartition.l0 k x0 x2 (wrap64 (x7 + t235)) x20 x21 (wrap64 (x22 + 1)) x220000 x220001 x220002))
end
def impl_isPartition.f (k : Nat) (a0 : Int) (a1_0 : Int) (a1_1 : Int) (a1_2 : Int) (l2 : List (S65)) : Option (Bool) := if (l2.length : Int) < 1 then (impl_isPartition.j0 k a0 l2 true a1_0 a1_1 a1_2) else (impl_isPartition.j0 k a0 l2 (decide ((l2.length : Int) > 64)) a1_0 a1_1 a1_2)
def impl_isPartition.T7 : Bool × List (List Nat × List Nat) := (true, [([], []), ([], []), ([1], [1]), ([0, 2], [0, 2]), ([3], [3]), ([4, 3], [4]), ([5], [5]), ([5], [5]), ([5], [5]), ([8, 5], [5, 8]), ([6, 7, 9, 5, 5], [5, 6, 7, 9]), ([10, 5], [5, 10]), ([5, 11], [5, 11]), ([12, 10], [12]), ([13], [13]), ([14, 13], [13, 14]), ([15, 13, 13], [13, 15]), ([16], [16]), ([16], [16]), ([18, 16], [16, 18]), ([17, 19, 16, 16], [16, 17, 19]), ([16], [16]), ([16], [16]), ([16], [16]), ([23, 16], [16, 23]), ([22, 24, 16], [16, 22, 24]), ([25, 16], [16, 25]), ([26, 16], [16, 26]), ([21, 27, 20, 16], [16, 21, 27]), ([20, 28, 16], [16, 20, 28]), ([16, 29, 13], [13, 16, 29]), ([13, 30], [13, 30])])
def impl_isPartition.B7 : List Nat := [0, 0, 2, 7, 15, 31, 63, 63, 63, 319, 1023, 2047, 4095, 8191, 16383, 32767, 65535, 131071, 131071, 393215, 1048575, 131071, 131071, 131071, 8519679, 29491199, 63045631, 130154495, 268435455, 536870911, 1073741823, 2147483647]
theorem impl_isPartition.tab7 : rtab .any (opsOf Try.f72 7) = impl_isPartition.T7 := by kernel_rfl
theorem impl_isPartition.bits7 : waitsOk impl_isPartition.T7.2 impl_isPartition.B7 = true := by kernel_rfl
set_option maxHeartbeats 8000000 in
set_option maxRecDepth 100000 in
theorem impl_isPartition.calls (k : Nat) (a0 : Int) (a1_0 : Int) (a1_1 : Int) (a1_2 : Int) (A2 : Option Addr) (c2 : Nat) (l2 : List (S65)) (r : Bool) (w : World) (hr2 : Kd.C k65 w A2 l2.length l2) (hc2 : l2.length ≤ c2) (h : impl_isPartition.f k a0 a1_0 a1_1 a1_2 l2 = some r) :
  Calls Try.prog 72 #[.int .i64 a0, .agg #[.int .i64 a1_0, .int .i64 a1_1, .int .i64 a1_2], .slice A2 l2.length c2] w fun e w' => e = .returned (.bool r) ∧ Below w.heap.size w w' := by
 have hu31 := Try.underlying31
 have hu65 := Try.underlying65
 have HR2 := Aside0.mk hr2
 have HC2 := Aside0.mk hc2
 clear hr2 hc2
 have HB := Aside0.mk (Below.refl w.heap.size w)
 have H : (if (l2.length : Int) < 1 then (impl_isPartition.j0 k a0 l2 true a1_0 a1_1 a1_2) else (impl_isPartition.j0 k a0 l2 (decide ((l2.length : Int) > 64)) a1_0 a1_1 a1_2)) = some r := h
 clear h
 have HC4 := Aside0.mk H
 clear H
 go_enter Try.func72, Try.ntmps72
 go_upto_region 1 with (first | ((with_reducible refine gate_dst (N := 4) rfl ?_); (try (refine gate_guard (by rfl) ?_; dsimp only)); refine box_event ?hg (N := 4) ?hd (cs := #[.int .i64 a1_0, .int .i64 a1_1, .int .i64 a1_2]) (t := 31) ?hr ?_; (case hd => rfl); (case hg => rfl); (case hr => first | (go_simp; done) | (go_simp; rfl)); intro gb219 hg w5 hbox hb; have n0_ := Aside0.mk (below_step (by repeat (first | (with_reducible first | exact HB.out | apply below_alloc | apply pw_below_drewN | apply below_drew1) | exact HB.out)) hb); have n1_ := Aside0.mk (hbox); have n2_ := Aside0.mk ((by rw [hg]; exact (below_size (by repeat (first | (with_reducible first | exact HB.out | apply below_alloc | apply pw_below_drewN | apply below_drew1) | exact HB.out))) : w.heap.size ≤ gb219)); have n3_ := Aside0.mk ((by rw [hg]; exact (below_size (by repeat (first | (with_reducible first | exact HB.out | apply below_alloc | apply pw_below_drewN | apply below_drew1) | exact HB.out))) : w.heap.size ≤ gb219)); clear HB; have HB := n0_; have BK219 := n1_; have GW219 := n2_; have GE219 := n3_; clear n0_ n1_ n2_ n3_; clear hb hbox hg))
 (try simp only [Act.put, lstS, lstZ, lstC])
 go_cut [19] (fun v19 wc => ∃ (kq : Nat) (x19_3 : Bool), v19 = .bool x19_3 ∧ Aside0 (impl_isPartition.j0 kq a0 l2 x19_3 a1_0 a1_1 a1_2 = some r) ∧ Aside0 (kq ≤ k) ∧ Aside0 (wc.heap[gb219]? = some (.cells #[.int .i64 a1_0, .int .i64 a1_1, .int .i64 a1_2] 31 (0, 0))) ∧ Aside0 (Below w.heap.size w wc))
 case first =>
  have H := HC4.out
  clear HC4
  by_cases c6 : (l2.length : Int) < 1
  ·rw [if_pos c6] at H
   have c6b0 : decide ((l2.length : Int) < 1) = true := decide_eq_true c6
   have c6b1 : decide (l2.length < 1) = true := decide_eq_true (by omega)
   clear c6
   (first | rw [c6b0] | (simp only [i64_w, i32_w]; rw [c6b0]) | skip)
   have H' := Aside0.mk H
   clear H
   go_wp2
   go_meet
   case rel => exact ⟨_, (true), (by first | rfl | (simp; done) | (simp [*]; done) | (simp [wrap64]; done)), H', ⟨by first | omega | exact Nat.le_refl _⟩, ⟨by (with_reducible repeat first | apply blk_drewN | apply blk_drew | apply blk_alloc); exact BK219.out⟩, ⟨by repeat (first | (with_reducible first | exact HB.out | apply below_alloc | apply pw_below_drewN | apply below_drew1 | refine below_set ?_ GE219.out) | exact HB.out)⟩⟩
  ·rw [if_neg c6] at H
   have c6b0 : decide ((l2.length : Int) < 1) = false := decide_eq_false c6
   have c6b1 : decide (l2.length < 1) = false := decide_eq_false (by omega)
   clear c6
   (first | rw [c6b0] | (simp only [i64_w, i32_w]; rw [c6b0]) | skip)
   have H' := Aside0.mk H
   clear H
   go_wp2
   go_meet
   case rel => exact ⟨_, (decide ((l2.length : Int) > 64)), (by first | rfl | (simp; done) | (simp [*]; done) | (simp [wrap64]; done)), H', ⟨by first | omega | exact Nat.le_refl _⟩, ⟨by (with_reducible repeat first | apply blk_drewN | apply blk_drew | apply blk_alloc); exact BK219.out⟩, ⟨by repeat (first | (with_reducible first | exact HB.out | apply below_alloc | apply pw_below_drewN | apply below_drew1 | refine below_set ?_ GE219.out) | exact HB.out)⟩⟩
 case rest =>
  clear HC4
  try clear c2
  try clear p2
  try clear c6
  try clear c6b0
  try clear c6b1
  obtain ⟨kq, x19_3, rfl, HA, HJ3, BK219, HB⟩ := hcut
  cases kq with
  | zero => exact absurd HA.out (by simp [impl_isPartition.j0])
  | succ kj3 =>
   have H := HA.out
   clear HA
   simp only [impl_isPartition.j0] at H
   by_cases c7 : x19_3 = true
   ·subst c7
    have H1 : (some false) = some r := by rw [if_pos rfl] at H; exact H
    clear H
    have H := H1
    clear H1
    obtain rfl := Option.some.inj H
    go_wp2
    go_ret
    exact ⟨by first | rfl | (simp [errW_none, errW_some] <;> rfl) | (simp [*, errW_none, errW_some] <;> rfl), by repeat (first | (with_reducible first | exact HB.out | apply below_alloc | apply pw_below_drewN | apply below_drew1 | refine below_set ?_ GE219.out) | exact HB.out)⟩
   ·replace c7 := Bool.eq_false_iff.mpr c7
    subst c7
    have H1 : (impl_isPartition.l0 kj3 a0 l2 0 l2 (l2.length : Int) 0 a1_0 a1_1 a1_2) = some r := by rw [if_neg (show ¬ (false = true) by decide)] at H; exact H
    clear H
    have H := H1
    clear H1
    have H' := Aside0.mk H
    clear H
    go_wp2
    go_loopg [7, 22] kj3 (fun kq v7 v22 w' => ∃ (x7_2 : Int) (x22_2 : Int), v7 = .int .i64 x7_2 ∧ v22 = .int .i64 x22_2 ∧ Aside0 (impl_isPartition.l0 kq a0 l2 x7_2 l2 (l2.length : Int) x22_2 a1_0 a1_1 a1_2 = some r) ∧ Aside0 (kq ≤ kj3) ∧ Aside0 (w'.heap[gb219]? = some (.cells #[.int .i64 a1_0, .int .i64 a1_1, .int .i64 a1_2] 31 (0, 0))) ∧ Aside0 (Below w.heap.size w w'))
    case atStart => exact ⟨(0), (0), (by first | rfl | (simp; done) | (simp [*]; done) | (simp [wrap64]; done)), (by first | rfl | (simp; done) | (simp [*]; done) | (simp [wrap64]; done)), H', ⟨Nat.le_refl _⟩, ⟨by (with_reducible repeat first | apply blk_drewN | apply blk_drew | apply blk_alloc); exact BK219.out⟩, ⟨by repeat (first | (with_reducible first | exact HB.out | apply below_alloc | apply pw_below_drewN | apply below_drew1 | refine below_set ?_ GE219.out) | exact HB.out)⟩⟩
    case round =>
     clear H'
     try clear c2
     try clear p2
     try clear c6
     try clear c6b0
     try clear c6b1
     try clear c7
     try clear p2
     obtain ⟨x7_2, x22_2, rfl, rfl, HA, HK2, BK219, HB⟩ := hrel
     cases gk with
     | zero => exact absurd HA.out (by simp [impl_isPartition.l0])
     | succ k2 =>
      have H := HA.out
      clear HA
      simp only [impl_isPartition.l0] at H
      by_cases c8 : x22_2 < (l2.length : Int)
      ·rw [if_pos c8] at H
       have c8b0 : decide (x22_2 < (l2.length : Int)) = true := decide_eq_true c8
       clear c8
       by_cases c9 : 0 ≤ x22_2
       ·rw [if_pos c9] at H
        have c9b0 : decide (0 ≤ x22_2) = true := decide_eq_true c9
        clear c9
        by_cases c10 : x22_2 < (l2.length : Int)
        ·rw [if_pos c10] at H
         have c10b0 : decide (x22_2 < (l2.length : Int)) = true := decide_eq_true c10
         clear c10
         have HC11 := Aside0.mk H
         clear H
         have p221 : 0 ≤ (x22_2 : Int) := of_decide_eq_true (by first | (with_reducible assumption) | assumption)
         have q221 : x22_2 < (l2.length : Int) := of_decide_eq_true (by first | (with_reducible assumption) | assumption)
         obtain ⟨ad221, e221, hx221_0, hx221_1, hx221_2, hx221_3⟩ := at_T65 HR2.out x22_2 p221 q221
         cases e221
         replace hx221_0 := clTr HB.out hx221_0
         replace hx221_1 := clTr HB.out hx221_1
         replace hx221_2 := clTr HB.out hx221_2
         replace hx221_3 := clTr HB.out hx221_3
         replace p221 := eq_true p221
         replace q221 := eq_true q221
         go_upto_region 7 with (first | ((with_reducible refine gate_dst (N := 9) rfl ?_); (try (refine gate_guard (by rfl) ?_; dsimp only)); refine box_event ?hg (N := 9) ?hd (cs := #[.int .i64 0, .int .i64 0, .int .i64 0, .int .i64 0]) (t := 65) ?hr ?_; (case hd => rfl); (case hg => rfl); (case hr => first | (go_simp; done) | (go_simp; rfl)); intro gb222 hg w12 hbox hb; have n0_ := Aside0.mk (blk_below (g := gb219) (o := .cells #[.int .i64 a1_0, .int .i64 a1_1, .int .i64 a1_2] 31 (0, 0)) (by (with_reducible repeat first | apply blk_drewN | apply blk_drew | apply blk_alloc); exact BK219.out) hb); have n1_ := Aside0.mk (below_step (by repeat (first | (with_reducible first | exact HB.out | apply below_alloc | apply pw_below_drewN | apply below_drew1 | refine below_set ?_ GE219.out) | exact HB.out)) hb); have n2_ := Aside0.mk (hbox); have n3_ := Aside0.mk ((by rw [hg]; exact (below_size (by repeat (first | (with_reducible first | exact HB.out | apply below_alloc | apply pw_below_drewN | apply below_drew1 | refine below_set ?_ GE219.out) | exact HB.out))) : w.heap.size ≤ gb222)); have n4_ := Aside0.mk ((by rw [hg]; exact (below_size (by repeat (first | (with_reducible first | exact HB.out | apply below_alloc | apply pw_below_drewN | apply below_drew1 | refine below_set ?_ GE219.out) | exact HB.out))) : w.heap.size ≤ gb222)); have n5_ := Aside0.mk ((by rw [hg]; exact Nat.ne_of_lt (blk_lt (g := gb219) (o := .cells #[.int .i64 a1_0, .int .i64 a1_1, .int .i64 a1_2] 31 (0, 0)) (by (with_reducible repeat first | apply blk_drewN | apply blk_drew | apply blk_alloc); exact BK219.out)) : gb219 ≠ gb222)); have n6_ := Aside0.mk ((by rw [hg]; exact Nat.ne_of_gt (blk_lt (g := gb219) (o := .cells #[.int .i64 a1_0, .int .i64 a1_1, .int .i64 a1_2] 31 (0, 0)) (by (with_reducible repeat first | apply blk_drewN | apply blk_drew | apply blk_alloc); exact BK219.out)) : gb222 ≠ gb219)); clear BK219; clear HB; have BK219 := n0_; have HB := n1_; have BK222 := n2_; have GW222 := n3_; have GE222 := n4_; have NB219_222 := n5_; have NB222_219 := n6_; clear n0_ n1_ n2_ n3_ n4_ n5_ n6_; clear hb hbox hg; have hnb13 := NB222_219.out; have hnc13 := NB219_222.out; have hcz14_0 : w12.cell? ⟨gb222, 0, none⟩ = some (.int .i64 0) := (blk_cell BK222.out 0).trans rfl; have hcz14_1 : w12.cell? ⟨gb222, 1, none⟩ = some (.int .i64 0) := (blk_cell BK222.out 1).trans rfl; have hcz14_2 : w12.cell? ⟨gb222, 2, none⟩ = some (.int .i64 0) := (blk_cell BK222.out 2).trans rfl; have hcz14_3 : w12.cell? ⟨gb222, 3, none⟩ = some (.int .i64 0) := (blk_cell BK222.out 3).trans rfl; have hfz14_0 := blk_frozen BK222.out 0; have hfz14_1 := blk_frozen BK222.out 1; have hfz14_2 := blk_frozen BK222.out 2; have hfz14_3 := blk_frozen BK222.out 3))
         (try simp only [Act.put, lstS, lstZ, lstC])
         go_cut [58] (fun v58 wc => ∃ (kq : Nat) (x58_10 : Bool), v58 = .bool x58_10 ∧ Aside0 (impl_isPartition.j2 kq a0 l2 x7_2 x22_2 l2 (l2.length : Int) x22_2 x58_10 a1_0 a1_1 a1_2 ((rd_T65 l2 x22_2).f0.f0) ((rd_T65 l2 x22_2).f0.f1) ((rd_T65 l2 x22_2).f0.f2) ((rd_T65 l2 x22_2).f1) = some r) ∧ Aside0 (kq ≤ k2) ∧ Aside0 (wc.heap[gb219]? = some (.cells #[.int .i64 a1_0, .int .i64 a1_1, .int .i64 a1_2] 31 (0, 0))) ∧ Aside0 (wc.heap[gb222]? = some (.cells #[.int .i64 ((rd_T65 l2 x22_2).f0.f0), .int .i64 ((rd_T65 l2 x22_2).f0.f1), .int .i64 ((rd_T65 l2 x22_2).f0.f2), .int .i64 ((rd_T65 l2 x22_2).f1)] 65 (0, 0))) ∧ Aside0 (Below w.heap.size w wc))
         case first =>
          have H := HC11.out
          clear HC11
          replace H := Option.bind_eq_some_iff.mp H
          obtain ⟨t223, A150, H⟩ := H
          replace H : (if t223 = true then ((impl_holds.f k2 a0 a1_0 a1_1 a1_2 ((rd_T65 l2 x22_2).f0.f0) ((rd_T65 l2 x22_2).f0.f1) ((rd_T65 l2 x22_2).f0.f2)).bind fun t224 => (if t224 = true then (if x22_2 > 0 then ((impl_mark.f k2 a0 ((rd_T65 l2 x22_2).f0.f0) ((rd_T65 l2 x22_2).f0.f1) ((rd_T65 l2 x22_2).f0.f2)).bind fun t225 => (if 0 ≤ (wrap64 (x22_2 - 1)) then (if (wrap64 (x22_2 - 1)) < (l2.length : Int) then ((impl_mark.f k2 a0 ((rd_T65 l2 (wrap64 (x22_2 - 1))).f0.f0) ((rd_T65 l2 (wrap64 (x22_2 - 1))).f0.f1) ((rd_T65 l2 (wrap64 (x22_2 - 1))).f0.f2)).bind fun t227 => (impl_isPartition.j2 k2 a0 l2 x7_2 x22_2 l2 (l2.length : Int) x22_2 (decide (t225 ≤ t227)) a1_0 a1_1 a1_2 ((rd_T65 l2 x22_2).f0.f0) ((rd_T65 l2 x22_2).f0.f1) ((rd_T65 l2 x22_2).f0.f2) ((rd_T65 l2 x22_2).f1))) else (none)) else (none))) else (impl_isPartition.j2 k2 a0 l2 x7_2 x22_2 l2 (l2.length : Int) x22_2 false a1_0 a1_1 a1_2 ((rd_T65 l2 x22_2).f0.f0) ((rd_T65 l2 x22_2).f0.f1) ((rd_T65 l2 x22_2).f0.f2) ((rd_T65 l2 x22_2).f1))) else (impl_isPartition.j2 k2 a0 l2 x7_2 x22_2 l2 (l2.length : Int) x22_2 true a1_0 a1_1 a1_2 ((rd_T65 l2 x22_2).f0.f0) ((rd_T65 l2 x22_2).f0.f1) ((rd_T65 l2 x22_2).f0.f2) ((rd_T65 l2 x22_2).f1)))) else (impl_isPartition.j2 k2 a0 l2 x7_2 x22_2 l2 (l2.length : Int) x22_2 true a1_0 a1_1 a1_2 ((rd_T65 l2 x22_2).f0.f0) ((rd_T65 l2 x22_2).f0.f1) ((rd_T65 l2 x22_2).f0.f2) ((rd_T65 l2 x22_2).f1))) = some r := H
          have A15 := Aside0.mk A150
          clear A150
          by_cases c16 : t223 = true
          ·subst c16
           have H1 : ((impl_holds.f k2 a0 a1_0 a1_1 a1_2 ((rd_T65 l2 x22_2).f0.f0) ((rd_T65 l2 x22_2).f0.f1) ((rd_T65 l2 x22_2).f0.f2)).bind fun t224 => (if t224 = true then (if x22_2 > 0 then ((impl_mark.f k2 a0 ((rd_T65 l2 x22_2).f0.f0) ((rd_T65 l2 x22_2).f0.f1) ((rd_T65 l2 x22_2).f0.f2)).bind fun t225 => (if 0 ≤ (wrap64 (x22_2 - 1)) then (if (wrap64 (x22_2 - 1)) < (l2.length : Int) then ((impl_mark.f k2 a0 ((rd_T65 l2 (wrap64 (x22_2 - 1))).f0.f0) ((rd_T65 l2 (wrap64 (x22_2 - 1))).f0.f1) ((rd_T65 l2 (wrap64 (x22_2 - 1))).f0.f2)).bind fun t227 => (impl_isPartition.j2 k2 a0 l2 x7_2 x22_2 l2 (l2.length : Int) x22_2 (decide (t225 ≤ t227)) a1_0 a1_1 a1_2 ((rd_T65 l2 x22_2).f0.f0) ((rd_T65 l2 x22_2).f0.f1) ((rd_T65 l2 x22_2).f0.f2) ((rd_T65 l2 x22_2).f1))) else (none)) else (none))) else (impl_isPartition.j2 k2 a0 l2 x7_2 x22_2 l2 (l2.length : Int) x22_2 false a1_0 a1_1 a1_2 ((rd_T65 l2 x22_2).f0.f0) ((rd_T65 l2 x22_2).f0.f1) ((rd_T65 l2 x22_2).f0.f2) ((rd_T65 l2 x22_2).f1))) else (impl_isPartition.j2 k2 a0 l2 x7_2 x22_2 l2 (l2.length : Int) x22_2 true a1_0 a1_1 a1_2 ((rd_T65 l2 x22_2).f0.f0) ((rd_T65 l2 x22_2).f0.f1) ((rd_T65 l2 x22_2).f0.f2) ((rd_T65 l2 x22_2).f1)))) = some r := by rw [if_pos rfl] at H; exact H
           clear H
           have H := H1
           clear H1
           replace H := Option.bind_eq_some_iff.mp H
           obtain ⟨t224, A170, H⟩ := H
           replace H : (if t224 = true then (if x22_2 > 0 then ((impl_mark.f k2 a0 ((rd_T65 l2 x22_2).f0.f0) ((rd_T65 l2 x22_2).f0.f1) ((rd_T65 l2 x22_2).f0.f2)).bind fun t225 => (if 0 ≤ (wrap64 (x22_2 - 1)) then (if (wrap64 (x22_2 - 1)) < (l2.length : Int) then ((impl_mark.f k2 a0 ((rd_T65 l2 (wrap64 (x22_2 - 1))).f0.f0) ((rd_T65 l2 (wrap64 (x22_2 - 1))).f0.f1) ((rd_T65 l2 (wrap64 (x22_2 - 1))).f0.f2)).bind fun t227 => (impl_isPartition.j2 k2 a0 l2 x7_2 x22_2 l2 (l2.length : Int) x22_2 (decide (t225 ≤ t227)) a1_0 a1_1 a1_2 ((rd_T65 l2 x22_2).f0.f0) ((rd_T65 l2 x22_2).f0.f1) ((rd_T65 l2 x22_2).f0.f2) ((rd_T65 l2 x22_2).f1))) else (none)) else (none))) else (impl_isPartition.j2 k2 a0 l2 x7_2 x22_2 l2 (l2.length : Int) x22_2 false a1_0 a1_1 a1_2 ((rd_T65 l2 x22_2).f0.f0) ((rd_T65 l2 x22_2).f0.f1) ((rd_T65 l2 x22_2).f0.f2) ((rd_T65 l2 x22_2).f1))) else (impl_isPartition.j2 k2 a0 l2 x7_2 x22_2 l2 (l2.length : Int) x22_2 true a1_0 a1_1 a1_2 ((rd_T65 l2 x22_2).f0.f0) ((rd_T65 l2 x22_2).f0.f1) ((rd_T65 l2 x22_2).f0.f2) ((rd_T65 l2 x22_2).f1))) = some r := H
           have A17 := Aside0.mk A170
           clear A170
           by_cases c18 : t224 = true
           ·subst c18
            have H1 : (if x22_2 > 0 then ((impl_mark.f k2 a0 ((rd_T65 l2 x22_2).f0.f0) ((rd_T65 l2 x22_2).f0.f1) ((rd_T65 l2 x22_2).f0.f2)).bind fun t225 => (if 0 ≤ (wrap64 (x22_2 - 1)) then (if (wrap64 (x22_2 - 1)) < (l2.length : Int) then ((impl_mark.f k2 a0 ((rd_T65 l2 (wrap64 (x22_2 - 1))).f0.f0) ((rd_T65 l2 (wrap64 (x22_2 - 1))).f0.f1) ((rd_T65 l2 (wrap64 (x22_2 - 1))).f0.f2)).bind fun t227 => (impl_isPartition.j2 k2 a0 l2 x7_2 x22_2 l2 (l2.length : Int) x22_2 (decide (t225 ≤ t227)) a1_0 a1_1 a1_2 ((rd_T65 l2 x22_2).f0.f0) ((rd_T65 l2 x22_2).f0.f1) ((rd_T65 l2 x22_2).f0.f2) ((rd_T65 l2 x22_2).f1))) else (none)) else (none))) else (impl_isPartition.j2 k2 a0 l2 x7_2 x22_2 l2 (l2.length : Int) x22_2 false a1_0 a1_1 a1_2 ((rd_T65 l2 x22_2).f0.f0) ((rd_T65 l2 x22_2).f0.f1) ((rd_T65 l2 x22_2).f0.f2) ((rd_T65 l2 x22_2).f1))) = some r := by rw [if_pos rfl] at H; exact H
            clear H
            have H := H1
            clear H1
            by_cases c19 : x22_2 > 0
            ·rw [if_pos c19] at H
             have c19b0 : decide (0 < x22_2) = true := decide_eq_true c19
             clear c19
             (first | rw [c19b0] | (simp only [i64_w, i32_w]; rw [c19b0]) | skip)
             replace H := Option.bind_eq_some_iff.mp H
             obtain ⟨t225, A200, H⟩ := H
             replace H : (if 0 ≤ (wrap64 (x22_2 - 1)) then (if (wrap64 (x22_2 - 1)) < (l2.length : Int) then ((impl_mark.f k2 a0 ((rd_T65 l2 (wrap64 (x22_2 - 1))).f0.f0) ((rd_T65 l2 (wrap64 (x22_2 - 1))).f0.f1) ((rd_T65 l2 (wrap64 (x22_2 - 1))).f0.f2)).bind fun t227 => (impl_isPartition.j2 k2 a0 l2 x7_2 x22_2 l2 (l2.length : Int) x22_2 (decide (t225 ≤ t227)) a1_0 a1_1 a1_2 ((rd_T65 l2 x22_2).f0.f0) ((rd_T65 l2 x22_2).f0.f1) ((rd_T65 l2 x22_2).f0.f2) ((rd_T65 l2 x22_2).f1))) else (none)) else (none)) = some r := H
             have A20 := Aside0.mk A200
             clear A200
             obtain ⟨ji21, hji21⟩ : ∃ j_ : Int, (wrap64 (x22_2 - 1)) = j_ := ⟨_, rfl⟩
             replace H : (if 0 ≤ (ji21) then (if (ji21) < (l2.length : Int) then ((impl_mark.f k2 a0 ((rd_T65 l2 (ji21)).f0.f0) ((rd_T65 l2 (ji21)).f0.f1) ((rd_T65 l2 (ji21)).f0.f2)).bind fun t227 => (impl_isPartition.j2 k2 a0 l2 x7_2 x22_2 l2 (l2.length : Int) x22_2 (decide (t225 ≤ t227)) a1_0 a1_1 a1_2 ((rd_T65 l2 x22_2).f0.f0) ((rd_T65 l2 x22_2).f0.f1) ((rd_T65 l2 x22_2).f0.f2) ((rd_T65 l2 x22_2).f1))) else (none)) else (none)) = some r := by first | (rw [hji21] at H; exact H) | (simp only [hji21] at H ⊢; exact H)
             (try rw [hji21] at A15)
             (try rw [hji21] at A17)
             (try rw [hji21] at A20)
             have hji21w : (IntKind.i64.wrap (x22_2 - 1)) = ji21 := (i64_w _).trans hji21
             by_cases c22 : 0 ≤ (ji21)
             ·rw [if_pos c22] at H
              have c22b0 : decide (0 ≤ (ji21)) = true := decide_eq_true c22
              clear c22
              by_cases c23 : (ji21) < (l2.length : Int)
              ·rw [if_pos c23] at H
               have c23b0 : decide ((ji21) < (l2.length : Int)) = true := decide_eq_true c23
               clear c23
               replace H := Option.bind_eq_some_iff.mp H
               obtain ⟨t227, A240, H⟩ := H
               replace H : (impl_isPartition.j2 k2 a0 l2 x7_2 x22_2 l2 (l2.length : Int) x22_2 (decide (t225 ≤ t227)) a1_0 a1_1 a1_2 ((rd_T65 l2 x22_2).f0.f0) ((rd_T65 l2 x22_2).f0.f1) ((rd_T65 l2 x22_2).f0.f2) ((rd_T65 l2 x22_2).f1)) = some r := H
               have A24 := Aside0.mk A240
               clear A240
               have H' := Aside0.mk H
               clear H
               try go_wp2
               have n0_ : Aside0 (((((w12.setCell ⟨gb222, 0, none⟩ (.int .i64 ((rd_T65 l2 x22_2).f0.f0))).setCell ⟨gb222, 1, none⟩ (.int .i64 ((rd_T65 l2 x22_2).f0.f1))).setCell ⟨gb222, 2, none⟩ (.int .i64 ((rd_T65 l2 x22_2).f0.f2))).setCell ⟨gb222, 3, none⟩ (.int .i64 ((rd_T65 l2 x22_2).f1))).heap[gb219]? = some (.cells #[.int .i64 a1_0, .int .i64 a1_1, .int .i64 a1_2] 31 (0, 0))) := ⟨by (with_reducible repeat first | apply blk_drewN | apply blk_drew | apply blk_alloc); refine blk_far ?_ NB219_222.out _; (with_reducible repeat first | apply blk_drewN | apply blk_drew | apply blk_alloc); refine blk_far ?_ NB219_222.out _; (with_reducible repeat first | apply blk_drewN | apply blk_drew | apply blk_alloc); refine blk_far ?_ NB219_222.out _; (with_reducible repeat first | apply blk_drewN | apply blk_drew | apply blk_alloc); refine blk_far ?_ NB219_222.out _; (with_reducible repeat first | apply blk_drewN | apply blk_drew | apply blk_alloc); exact BK219.out⟩
               have n1_ : Aside0 (((((w12.setCell ⟨gb222, 0, none⟩ (.int .i64 ((rd_T65 l2 x22_2).f0.f0))).setCell ⟨gb222, 1, none⟩ (.int .i64 ((rd_T65 l2 x22_2).f0.f1))).setCell ⟨gb222, 2, none⟩ (.int .i64 ((rd_T65 l2 x22_2).f0.f2))).setCell ⟨gb222, 3, none⟩ (.int .i64 ((rd_T65 l2 x22_2).f1))).heap[gb222]? = some (.cells #[.int .i64 ((rd_T65 l2 x22_2).f0.f0), .int .i64 ((rd_T65 l2 x22_2).f0.f1), .int .i64 ((rd_T65 l2 x22_2).f0.f2), .int .i64 ((rd_T65 l2 x22_2).f1)] 65 (0, 0))) := ⟨by (with_reducible repeat first | apply blk_drewN | apply blk_drew | apply blk_alloc); refine blk_put (cs := #[.int .i64 ((rd_T65 l2 x22_2).f0.f0), .int .i64 ((rd_T65 l2 x22_2).f0.f1), .int .i64 ((rd_T65 l2 x22_2).f0.f2), .int .i64 0]) ?_ 3 _ rfl; (with_reducible repeat first | apply blk_drewN | apply blk_drew | apply blk_alloc); refine blk_put (cs := #[.int .i64 ((rd_T65 l2 x22_2).f0.f0), .int .i64 ((rd_T65 l2 x22_2).f0.f1), .int .i64 0, .int .i64 0]) ?_ 2 _ rfl; (with_reducible repeat first | apply blk_drewN | apply blk_drew | apply blk_alloc); refine blk_put (cs := #[.int .i64 ((rd_T65 l2 x22_2).f0.f0), .int .i64 0, .int .i64 0, .int .i64 0]) ?_ 1 _ rfl; (with_reducible repeat first | apply blk_drewN | apply blk_drew | apply blk_alloc); refine blk_put (cs := #[.int .i64 0, .int .i64 0, .int .i64 0, .int .i64 0]) ?_ 0 _ rfl; (with_reducible repeat first | apply blk_drewN | apply blk_drew | apply blk_alloc); exact BK222.out⟩
               have n2_ : Aside0 (Below w.heap.size w ((((w12.setCell ⟨gb222, 0, none⟩ (.int .i64 ((rd_T65 l2 x22_2).f0.f0))).setCell ⟨gb222, 1, none⟩ (.int .i64 ((rd_T65 l2 x22_2).f0.f1))).setCell ⟨gb222, 2, none⟩ (.int .i64 ((rd_T65 l2 x22_2).f0.f2))).setCell ⟨gb222, 3, none⟩ (.int .i64 ((rd_T65 l2 x22_2).f1)))) := ⟨by repeat (first | (with_reducible first | exact HB.out | apply below_alloc | apply pw_below_drewN | apply below_drew1 | refine below_set ?_ GE219.out | refine below_set ?_ GE222.out) | exact HB.out)⟩
               (try clear BK219)
               (try clear BK222)
               (try clear HB)
               generalize ((((w12.setCell ⟨gb222, 0, none⟩ (.int .i64 ((rd_T65 l2 x22_2).f0.f0))).setCell ⟨gb222, 1, none⟩ (.int .i64 ((rd_T65 l2 x22_2).f0.f1))).setCell ⟨gb222, 2, none⟩ (.int .i64 ((rd_T65 l2 x22_2).f0.f2))).setCell ⟨gb222, 3, none⟩ (.int .i64 ((rd_T65 l2 x22_2).f1))) = w25 at n0_ n1_ n2_ ⊢
               have BK219 := n0_
               have BK222 := n1_
               have HB := n2_
               clear n0_ n1_ n2_
               have n0_ := Aside0.mk (blk_drew BK219.out)
               have n1_ := Aside0.mk (blk_drew BK222.out)
               have n2_ := Aside0.mk (below_drew1 HB.out)
               clear BK219
               clear BK222
               clear HB
               have BK219 := n0_
               have BK222 := n1_
               have HB := n2_
               clear n0_ n1_ n2_
               have p226 : 0 ≤ ((ji21) : Int) := of_decide_eq_true (by first | (with_reducible assumption) | assumption)
               have q226 : (ji21) < (l2.length : Int) := of_decide_eq_true (by first | (with_reducible assumption) | assumption)
               obtain ⟨ad226, e226, hx226_0, hx226_1, hx226_2, hx226_3⟩ := at_T65 HR2.out (ji21) p226 q226
               have hw226_3 := hx226_3
               have hw226_2 := hx226_2
               have hw226_1 := hx226_1
               have hw226_0 := hx226_0
               obtain rfl : ad221 = ad226 := (by injection e226)
               replace hx226_0 := clTr HB.out hx226_0
               replace hx226_1 := clTr HB.out hx226_1
               replace hx226_2 := clTr HB.out hx226_2
               replace hx226_3 := clTr HB.out hx226_3
               replace p226 := eq_true p226
               replace q226 := eq_true q226
               refine start_ (n := 32) (S := fun w' => w'.cell? ⟨gb222, 0, none⟩ = some (.int .i64 ((rd_T65 l2 x22_2).f0.f0)) ∧ w'.cell? ⟨gb222, 1, none⟩ = some (.int .i64 ((rd_T65 l2 x22_2).f0.f1)) ∧ w'.cell? ⟨gb222, 2, none⟩ = some (.int .i64 ((rd_T65 l2 x22_2).f0.f2)) ∧ w'.cell? ⟨gb222, 3, none⟩ = some (.int .i64 ((rd_T65 l2 x22_2).f1)) ∧ w'.cell? ⟨gb219, 0, none⟩ = some (.int .i64 a1_0) ∧ w'.cell? ⟨gb219, 1, none⟩ = some (.int .i64 a1_1) ∧ w'.cell? ⟨gb219, 2, none⟩ = some (.int .i64 a1_2) ∧ w'.cell? (ad221.add (((ji21)).toNat * 4)) = some (.int .i64 ((rd_T65 l2 (ji21)).f0.f0)) ∧ w'.cell? ⟨(ad221.add (((ji21)).toNat * 4)).block, (ad221.add (((ji21)).toNat * 4)).off + 1, none⟩ = some (.int .i64 ((rd_T65 l2 (ji21)).f0.f1)) ∧ w'.cell? ⟨(ad221.add (((ji21)).toNat * 4)).block, (ad221.add (((ji21)).toNat * 4)).off + 2, none⟩ = some (.int .i64 ((rd_T65 l2 (ji21)).f0.f2)) ∧ w'.cell? ⟨(ad221.add (((ji21)).toNat * 4)).block, (ad221.add (((ji21)).toNat * 4)).off + 3, none⟩ = some (.int .i64 ((rd_T65 l2 (ji21)).f1))) (ds := []) #[false, false, false, false, false, false, false, false, false, false, false, false, false, false, false, false, false, false, false, false, false, false, false, false, false, false, false, false, false, false, false, false] (by kernel_rfl) rfl rfl ⟨(blk_cell BK222.out 0).trans rfl, (blk_cell BK222.out 1).trans rfl, (blk_cell BK222.out 2).trans rfl, (blk_cell BK222.out 3).trans rfl, (blk_cell BK219.out 0).trans rfl, (blk_cell BK219.out 1).trans rfl, (blk_cell BK219.out 2).trans rfl, (clTr HB.out hw226_0), (clTr HB.out hw226_1), (clTr HB.out hw226_2), (clTr HB.out hw226_3)⟩ (fun hHeld => ?_); refine with_tabW impl_isPartition.tab7 impl_isPartition.bits7 (fun HT_ HW_ => ?_)
               generalize w25.drew = w26 at BK219 BK222 HB hx226_0 hx226_1 hx226_2 hx226_3 hHeld ⊢
               refine pure_ (i := 0) (N := some 27) (v := ?_) (a' := ?_) #[true, false, false, false, false, false, false, false, false, false, false, false, false, false, false, false, false, false, false, false, false, false, false, false, false, false, false, false, false, false, false, false] rfl rfl (any_of HT_.out (by kernel_rfl)) (fun _ _ _ h => h) (Or.inl ⟨by rfl, ?_⟩) ?_ ?_
               rotate_left
               ·intro w'
                go_simp
                with_reducible rfl
               rotate_left
               ·simp only [Act.put, lstS, lstZ, lstC, i64_w, i32_w]
                rfl
               refine pure_ (i := 1) (N := some 28) (v := ?_) (a' := ?_) #[true, true, false, false, false, false, false, false, false, false, false, false, false, false, false, false, false, false, false, false, false, false, false, false, false, false, false, false, false, false, false, false] rfl rfl (any_of HT_.out (by kernel_rfl)) (fun _ _ _ h => h) (Or.inl ⟨by rfl, ?_⟩) ?_ ?_
               rotate_left
               ·intro w'
                go_simp
                with_reducible rfl
               rotate_left
               ·simp only [Act.put, lstS, lstZ, lstC, i64_w, i32_w]
                rfl
               refine take_ (i := 2) (N := some 29) (v := ?_) (a' := ?_) #[true, true, true, false, false, false, false, false, false, false, false, false, false, false, false, false, false, false, false, false, false, false, false, false, false, false, false, false, false, false, false, false] rfl rfl (take_ofW HT_.out HW_.out (by kernel_rfl)) (fun _ _ _ h => h) (Or.inl ⟨by rfl, ?_⟩) hHeld ?_ ?_
               rotate_left
               ·rintro w' ⟨s0, s1, s2, s3, s4, s5, s6, s7, s8, s9, s10⟩
                go_simp
                with_reducible rfl
               rotate_left
               ·simp only [Act.put, lstS, lstZ, lstC, i64_w, i32_w]
                rfl
               refine one_ (i := 3) (N := some 30) #[true, true, true, true, false, false, false, false, false, false, false, false, false, false, false, false, false, false, false, false, false, false, false, false, false, false, false, false, false, false, false, false] rfl rfl (one_of HT_.out (by kernel_rfl)) (by decide) (fun K hK => ?_)
               refine goes_ Try.func71 (by kernel_rfl) rfl #[.int .i64 a0, .agg #[.int .i64 ((rd_T65 l2 x22_2).f0.f0), .int .i64 ((rd_T65 l2 x22_2).f0.f1), .int .i64 ((rd_T65 l2 x22_2).f0.f2)]] (by rfl) rfl rfl (by (try simp only [List.map_toArray, List.map_cons, List.map_nil]); first | done | rfl | (simp only [List.length_drop, List.length_take]; rfl)) ?_
               with_reducible refine (impl_IsBall.calls k2 a0 ((rd_T65 l2 x22_2).f0.f0) ((rd_T65 l2 x22_2).f0.f1) ((rd_T65 l2 x22_2).f0.f2) true _ A15.out).mono ?_
               rintro e w27 ⟨rfl, hb⟩
               refine ⟨_, rfl, ?_⟩
               have n0_ := Aside0.mk (blk_below (g := gb219) (o := .cells #[.int .i64 a1_0, .int .i64 a1_1, .int .i64 a1_2] 31 (0, 0)) (by (with_reducible repeat first | apply blk_drewN | apply blk_drew | apply blk_alloc); exact BK219.out) hb)
               have n1_ := Aside0.mk (blk_below (g := gb222) (o := .cells #[.int .i64 ((rd_T65 l2 x22_2).f0.f0), .int .i64 ((rd_T65 l2 x22_2).f0.f1), .int .i64 ((rd_T65 l2 x22_2).f0.f2), .int .i64 ((rd_T65 l2 x22_2).f1)] 65 (0, 0)) (by (with_reducible repeat first | apply blk_drewN | apply blk_drew | apply blk_alloc); exact BK222.out) hb)
               have n2_ := Aside0.mk (below_step (by repeat (first | (with_reducible first | exact HB.out | apply below_alloc | apply pw_below_drewN | apply below_drew1 | refine below_set ?_ GE219.out | refine below_set ?_ GE222.out) | exact HB.out)) hb)
               clear BK219
               clear BK222
               clear HB
               have BK219 := n0_
               have BK222 := n1_
               have HB := n2_
               clear n0_ n1_ n2_
               (try clear hb)
               (try clear hb2)
               (try clear hk)
               (try clear hi)
               refine hK.out _ _ ⟨(blk_cell BK222.out 0).trans rfl, (blk_cell BK222.out 1).trans rfl, (blk_cell BK222.out 2).trans rfl, (blk_cell BK222.out 3).trans rfl, (blk_cell BK219.out 0).trans rfl, (blk_cell BK219.out 1).trans rfl, (blk_cell BK219.out 2).trans rfl, (clTr HB.out hw226_0), (clTr HB.out hw226_1), (clTr HB.out hw226_2), (clTr HB.out hw226_3)⟩ (fun hHeld => ?_)
               clear hK K
               refine norm_ (a' := ?_) ?_ ?_
               rotate_left
               ·show Act.put _ (some 30) _ = _
                simp only [Act.put, lstS, lstZ, lstC, i64_w, i32_w]
                rfl
               refine pure_ (i := 4) (N := some 31) (v := ?_) (a' := ?_) #[true, true, true, true, true, false, false, false, false, false, false, false, false, false, false, false, false, false, false, false, false, false, false, false, false, false, false, false, false, false, false, false] rfl rfl (any_of HT_.out (by kernel_rfl)) (fun _ _ _ h => h) (Or.inl ⟨by rfl, ?_⟩) ?_ ?_
               rotate_left
               ·intro w'
                go_simp
                with_reducible rfl
               rotate_left
               ·simp only [Act.put, lstS, lstZ, lstC, i64_w, i32_w]
                rfl
               refine pure_ (i := 5) (N := some 32) (v := ?_) (a' := ?_) #[true, true, true, true, true, true, false, false, false, false, false, false, false, false, false, false, false, false, false, false, false, false, false, false, false, false, false, false, false, false, false, false] rfl rfl (any_of HT_.out (by kernel_rfl)) (fun _ _ _ h => h) (Or.inl ⟨by rfl, ?_⟩) ?_ ?_
               rotate_left
               ·intro w'
                go_simp
                with_reducible rfl
               rotate_left
               ·simp only [Act.put, lstS, lstZ, lstC, i64_w, i32_w]
                rfl
               refine pure_ (i := 6) (N := some 33) (v := ?_) (a' := ?_) #[true, true, true, true, true, true, true, false, false, false, false, false, false, false, false, false, false, false, false, false, false, false, false, false, false, false, false, false, false, false, false, false] rfl rfl (any_of HT_.out (by kernel_rfl)) (fun _ _ _ h => h) (Or.inl ⟨by rfl, ?_⟩) ?_ ?_
               rotate_left
               ·intro w'
                go_simp
                with_reducible rfl
               rotate_left
               ·simp only [Act.put, lstS, lstZ, lstC, i64_w, i32_w]
                rfl
               refine pure_ (i := 8) (N := some 35) (v := ?_) (a' := ?_) #[true, true, true, true, true, true, true, false, true, false, false, false, false, false, false, false, false, false, false, false, false, false, false, false, false, false, false, false, false, false, false, false] rfl rfl (any_of HT_.out (by kernel_rfl)) (fun _ _ _ h => h) (Or.inl ⟨by rfl, ?_⟩) ?_ ?_
               rotate_left
               ·intro w'
                go_simp
                with_reducible rfl
               rotate_left
               ·simp only [Act.put, lstS, lstZ, lstC, i64_w, i32_w]
                rfl
               refine take_ (i := 7) (N := some 34) (v := ?_) (a' := ?_) #[true, true, true, true, true, true, true, true, true, false, false, false, false, false, false, false, false, false, false, false, false, false, false, false, false, false, false, false, false, false, false, false] rfl rfl (take_ofW HT_.out HW_.out (by kernel_rfl)) (fun _ _ _ h => h) (Or.inl ⟨by rfl, ?_⟩) hHeld ?_ ?_
               rotate_left
               ·rintro w' ⟨s0, s1, s2, s3, s4, s5, s6, s7, s8, s9, s10⟩
                go_simp
                with_reducible rfl
               rotate_left
               ·simp only [Act.put, lstS, lstZ, lstC, i64_w, i32_w]
                rfl
               refine take_ (i := 9) (N := some 36) (v := ?_) (a' := ?_) #[true, true, true, true, true, true, true, true, true, true, false, false, false, false, false, false, false, false, false, false, false, false, false, false, false, false, false, false, false, false, false, false] rfl rfl (take_ofW HT_.out HW_.out (by kernel_rfl)) (fun _ _ _ h => h) (Or.inl ⟨by rfl, ?_⟩) hHeld ?_ ?_
               rotate_left
               ·rintro w' ⟨s0, s1, s2, s3, s4, s5, s6, s7, s8, s9, s10⟩
                go_simp
                with_reducible rfl
               rotate_left
               ·simp only [Act.put, lstS, lstZ, lstC, i64_w, i32_w]
                rfl
               refine one_ (i := 10) (N := some 37) #[true, true, true, true, true, true, true, true, true, true, true, false, false, false, false, false, false, false, false, false, false, false, false, false, false, false, false, false, false, false, false, false] rfl rfl (one_of HT_.out (by kernel_rfl)) (by decide) (fun K hK => ?_)
               refine goes_ Try.func82 (by kernel_rfl) rfl #[.int .i64 a0, .agg #[.int .i64 a1_0, .int .i64 a1_1, .int .i64 a1_2], .agg #[.int .i64 ((rd_T65 l2 x22_2).f0.f0), .int .i64 ((rd_T65 l2 x22_2).f0.f1), .int .i64 ((rd_T65 l2 x22_2).f0.f2)]] (by rfl) rfl rfl (by (try simp only [List.map_toArray, List.map_cons, List.map_nil]); first | done | rfl | (simp only [List.length_drop, List.length_take]; rfl)) ?_
               with_reducible refine (impl_holds.calls k2 a0 a1_0 a1_1 a1_2 ((rd_T65 l2 x22_2).f0.f0) ((rd_T65 l2 x22_2).f0.f1) ((rd_T65 l2 x22_2).f0.f2) true _ A17.out).mono ?_
               rintro e w28 ⟨rfl, hb⟩
               refine ⟨_, rfl, ?_⟩
               have n0_ := Aside0.mk (blk_below (g := gb219) (o := .cells #[.int .i64 a1_0, .int .i64 a1_1, .int .i64 a1_2] 31 (0, 0)) (by (with_reducible repeat first | apply blk_drewN | apply blk_drew | apply blk_alloc); exact BK219.out) hb)
               have n1_ := Aside0.mk (blk_below (g := gb222) (o := .cells #[.int .i64 ((rd_T65 l2 x22_2).f0.f0), .int .i64 ((rd_T65 l2 x22_2).f0.f1), .int .i64 ((rd_T65 l2 x22_2).f0.f2), .int .i64 ((rd_T65 l2 x22_2).f1)] 65 (0, 0)) (by (with_reducible repeat first | apply blk_drewN | apply blk_drew | apply blk_alloc); exact BK222.out) hb)
               have n2_ := Aside0.mk (below_step (by repeat (first | (with_reducible first | exact HB.out | apply below_alloc | apply pw_below_drewN | apply below_drew1 | refine below_set ?_ GE219.out | refine below_set ?_ GE222.out) | exact HB.out)) hb)
               clear BK219
               clear BK222
               clear HB
               have BK219 := n0_
               have BK222 := n1_
               have HB := n2_
               clear n0_ n1_ n2_
               (try clear hb)
               (try clear hb2)
               (try clear hk)
               (try clear hi)
               refine hK.out _ _ ⟨(blk_cell BK222.out 0).trans rfl, (blk_cell BK222.out 1).trans rfl, (blk_cell BK222.out 2).trans rfl, (blk_cell BK222.out 3).trans rfl, (blk_cell BK219.out 0).trans rfl, (blk_cell BK219.out 1).trans rfl, (blk_cell BK219.out 2).trans rfl, (clTr HB.out hw226_0), (clTr HB.out hw226_1), (clTr HB.out hw226_2), (clTr HB.out hw226_3)⟩ (fun hHeld => ?_)
               clear hK K
               refine norm_ (a' := ?_) ?_ ?_
               rotate_left
               ·show Act.put _ (some 37) _ = _
                simp only [Act.put, lstS, lstZ, lstC, i64_w, i32_w]
                rfl
               refine pure_ (i := 11) (N := some 38) (v := ?_) (a' := ?_) #[true, true, true, true, true, true, true, true, true, true, true, true, false, false, false, false, false, false, false, false, false, false, false, false, false, false, false, false, false, false, false, false] rfl rfl (any_of HT_.out (by kernel_rfl)) (fun _ _ _ h => h) (Or.inl ⟨by rfl, ?_⟩) ?_ ?_
               rotate_left
               ·intro w'
                go_simp
                with_reducible rfl
               rotate_left
               ·simp only [Act.put, lstS, lstZ, lstC, i64_w, i32_w]
                rfl
               refine pure_ (i := 12) (N := some 39) (v := ?_) (a' := ?_) #[true, true, true, true, true, true, true, true, true, true, true, true, true, false, false, false, false, false, false, false, false, false, false, false, false, false, false, false, false, false, false, false] rfl rfl (any_of HT_.out (by kernel_rfl)) (fun _ _ _ h => h) (Or.inl ⟨by rfl, ?_⟩) ?_ ?_
               rotate_left
               ·intro w'
                go_simp
                with_reducible rfl
               rotate_left
               ·simp only [Act.put, lstS, lstZ, lstC, i64_w, i32_w]
                rfl
               refine pure_ (i := 13) (N := some 40) (v := ?_) (a' := ?_) #[true, true, true, true, true, true, true, true, true, true, true, true, true, true, false, false, false, false, false, false, false, false, false, false, false, false, false, false, false, false, false, false] rfl rfl (any_of HT_.out (by kernel_rfl)) (fun _ _ _ h => h) (Or.inl ⟨by rfl, ?_⟩) ?_ ?_
               rotate_left
               ·intro w'
                go_simp
                with_reducible rfl
               rotate_left
               ·simp only [Act.put, lstS, lstZ, lstC, i64_w, i32_w]
                rfl
               refine pure_ (i := 14) (N := some 41) (v := ?_) (a' := ?_) #[true, true, true, true, true, true, true, true, true, true, true, true, true, true, true, false, false, false, false, false, false, false, false, false, false, false, false, false, false, false, false, false] rfl rfl (any_of HT_.out (by kernel_rfl)) (fun _ _ _ h => h) (Or.inl ⟨by rfl, ?_⟩) ?_ ?_
               rotate_left
               ·intro w'
                go_simp
                with_reducible rfl
               rotate_left
               ·simp only [Act.put, lstS, lstZ, lstC, i64_w, i32_w]
                rfl
               refine pure_ (i := 15) (N := some 42) (v := ?_) (a' := ?_) #[true, true, true, true, true, true, true, true, true, true, true, true, true, true, true, true, false, false, false, false, false, false, false, false, false, false, false, false, false, false, false, false] rfl rfl (any_of HT_.out (by kernel_rfl)) (fun _ _ _ h => h) (Or.inl ⟨by rfl, ?_⟩) ?_ ?_
               rotate_left
               ·intro w'
                go_simp
                with_reducible rfl
               rotate_left
               ·simp only [Act.put, lstS, lstZ, lstC, i64_w, i32_w]
                rfl
               refine pure_ (i := 16) (N := some 43) (v := ?_) (a' := ?_) #[true, true, true, true, true, true, true, true, true, true, true, true, true, true, true, true, true, false, false, false, false, false, false, false, false, false, false, false, false, false, false, false] rfl rfl (any_of HT_.out (by kernel_rfl)) (fun _ _ _ h => h) (Or.inl ⟨by rfl, ?_⟩) ?_ ?_
               rotate_left
               ·intro w'
                go_simp
                with_reducible rfl
               rotate_left
               ·simp only [Act.put, lstS, lstZ, lstC, i64_w, i32_w]
                rfl
               refine pure_ (i := 17) (N := some 44) (v := ?_) (a' := ?_) #[true, true, true, true, true, true, true, true, true, true, true, true, true, true, true, true, true, true, false, false, false, false, false, false, false, false, false, false, false, false, false, false] rfl rfl (any_of HT_.out (by kernel_rfl)) (fun _ _ _ h => h) (Or.inl ⟨by rfl, ?_⟩) ?_ ?_
               rotate_left
               ·intro w'
                go_simp
                with_reducible rfl
               rotate_left
               ·simp only [Act.put, lstS, lstZ, lstC, i64_w, i32_w]
                rfl
               refine pure_ (i := 18) (N := some 45) (v := ?_) (a' := ?_) #[true, true, true, true, true, true, true, true, true, true, true, true, true, true, true, true, true, true, true, false, false, false, false, false, false, false, false, false, false, false, false, false] rfl rfl (any_of HT_.out (by kernel_rfl)) (fun _ _ _ h => h) (Or.inl ⟨by rfl, ?_⟩) ?_ ?_
               rotate_left
               ·intro w'
                go_simp
                with_reducible rfl
               rotate_left
               ·simp only [Act.put, lstS, lstZ, lstC, i64_w, i32_w]
                rfl
               refine pure_ (i := 21) (N := some 48) (v := ?_) (a' := ?_) #[true, true, true, true, true, true, true, true, true, true, true, true, true, true, true, true, true, true, true, false, false, true, false, false, false, false, false, false, false, false, false, false] rfl rfl (any_of HT_.out (by kernel_rfl)) (fun _ _ _ h => h) (Or.inl ⟨by rfl, ?_⟩) ?_ ?_
               rotate_left
               ·intro w'
                go_simp
                with_reducible rfl
               rotate_left
               ·simp only [Act.put, lstS, lstZ, lstC, i64_w, i32_w]
                rfl
               refine pure_ (i := 22) (N := some 49) (v := ?_) (a' := ?_) #[true, true, true, true, true, true, true, true, true, true, true, true, true, true, true, true, true, true, true, false, false, true, true, false, false, false, false, false, false, false, false, false] rfl rfl (any_of HT_.out (by kernel_rfl)) (fun _ _ _ h => h) (Or.inl ⟨by rfl, ?_⟩) ?_ ?_
               rotate_left
               ·intro w'
                go_simp
                with_reducible rfl
               rotate_left
               ·simp only [Act.put, lstS, lstZ, lstC, i64_w, i32_w]
                rfl
               refine pure_ (i := 23) (N := some 50) (v := ?_) (a' := ?_) #[true, true, true, true, true, true, true, true, true, true, true, true, true, true, true, true, true, true, true, false, false, true, true, true, false, false, false, false, false, false, false, false] rfl rfl (any_of HT_.out (by kernel_rfl)) (fun _ _ _ h => h) (Or.inl ⟨by rfl, ?_⟩) ?_ ?_
               rotate_left
               ·intro w'
                go_simp
                with_reducible rfl
               rotate_left
               ·simp only [Act.put, lstS, lstZ, lstC, i64_w, i32_w]
                rfl
               refine pure_ (i := 24) (N := some 51) (v := ?_) (a' := ?_) #[true, true, true, true, true, true, true, true, true, true, true, true, true, true, true, true, true, true, true, false, false, true, true, true, true, false, false, false, false, false, false, false] rfl rfl (any_of HT_.out (by kernel_rfl)) (fun _ _ _ h => h) (Or.inl ⟨by rfl, ?_⟩) ?_ ?_
               rotate_left
               ·intro w'
                go_simp
                with_reducible rfl
               rotate_left
               ·simp only [Act.put, lstS, lstZ, lstC, i64_w, i32_w]
                rfl
               refine pure_ (i := 25) (N := some 52) (v := ?_) (a' := ?_) #[true, true, true, true, true, true, true, true, true, true, true, true, true, true, true, true, true, true, true, false, false, true, true, true, true, true, false, false, false, false, false, false] rfl rfl (any_of HT_.out (by kernel_rfl)) (fun _ _ _ h => h) (Or.inl ⟨by rfl, ?_⟩) ?_ ?_
               rotate_left
               ·intro w'
                go_simp
                with_reducible rfl
               rotate_left
               ·simp only [Act.put, lstS, lstZ, lstC, i64_w, i32_w]
                rfl
               refine pure_ (i := 26) (N := some 53) (v := ?_) (a' := ?_) #[true, true, true, true, true, true, true, true, true, true, true, true, true, true, true, true, true, true, true, false, false, true, true, true, true, true, true, false, false, false, false, false] rfl rfl (any_of HT_.out (by kernel_rfl)) (fun _ _ _ h => h) (Or.inl ⟨by rfl, ?_⟩) ?_ ?_
               rotate_left
               ·intro w'
                go_simp
                with_reducible rfl
               rotate_left
               ·simp only [Act.put, lstS, lstZ, lstC, i64_w, i32_w]
                rfl
               refine take_ (i := 19) (N := some 46) (v := ?_) (a' := ?_) #[true, true, true, true, true, true, true, true, true, true, true, true, true, true, true, true, true, true, true, true, false, true, true, true, true, true, true, false, false, false, false, false] rfl rfl (take_ofW HT_.out HW_.out (by kernel_rfl)) (fun _ _ _ h => h) (Or.inl ⟨by rfl, ?_⟩) hHeld ?_ ?_
               rotate_left
               ·rintro w' ⟨s0, s1, s2, s3, s4, s5, s6, s7, s8, s9, s10⟩
                go_simp
                with_reducible rfl
               rotate_left
               ·simp only [Act.put, lstS, lstZ, lstC, i64_w, i32_w]
                rfl
               refine take_ (i := 27) (N := some 54) (v := ?_) (a' := ?_) #[true, true, true, true, true, true, true, true, true, true, true, true, true, true, true, true, true, true, true, true, false, true, true, true, true, true, true, true, false, false, false, false] rfl rfl (take_ofW HT_.out HW_.out (by kernel_rfl)) (fun _ _ _ h => h) (Or.inl ⟨by rfl, ?_⟩) hHeld ?_ ?_
               rotate_left
               ·rintro w' ⟨s0, s1, s2, s3, s4, s5, s6, s7, s8, s9, s10⟩
                go_simp
                with_reducible rfl
               rotate_left
               ·simp only [Act.put, lstS, lstZ, lstC, i64_w, i32_w]
                rfl
               refine one_ (i := 20) (N := some 47) #[true, true, true, true, true, true, true, true, true, true, true, true, true, true, true, true, true, true, true, true, true, true, true, true, true, true, true, true, false, false, false, false] rfl rfl (one_of HT_.out (by kernel_rfl)) (by decide) (fun K hK => ?_)
               refine goes_ Try.func95 (by kernel_rfl) rfl #[.int .i64 a0, .agg #[.int .i64 ((rd_T65 l2 x22_2).f0.f0), .int .i64 ((rd_T65 l2 x22_2).f0.f1), .int .i64 ((rd_T65 l2 x22_2).f0.f2)]] (by rfl) rfl rfl (by (try simp only [List.map_toArray, List.map_cons, List.map_nil]); first | done | rfl | (simp only [List.length_drop, List.length_take]; rfl)) ?_
               with_reducible refine (impl_mark.calls k2 a0 ((rd_T65 l2 x22_2).f0.f0) ((rd_T65 l2 x22_2).f0.f1) ((rd_T65 l2 x22_2).f0.f2) t225 _ A20.out).mono ?_
               rintro e w29 ⟨rfl, hb⟩
               refine ⟨_, rfl, ?_⟩
               have n0_ := Aside0.mk (blk_below (g := gb219) (o := .cells #[.int .i64 a1_0, .int .i64 a1_1, .int .i64 a1_2] 31 (0, 0)) (by (with_reducible repeat first | apply blk_drewN | apply blk_drew | apply blk_alloc); exact BK219.out) hb)
               have n1_ := Aside0.mk (blk_below (g := gb222) (o := .cells #[.int .i64 ((rd_T65 l2 x22_2).f0.f0), .int .i64 ((rd_T65 l2 x22_2).f0.f1), .int .i64 ((rd_T65 l2 x22_2).f0.f2), .int .i64 ((rd_T65 l2 x22_2).f1)] 65 (0, 0)) (by (with_reducible repeat first | apply blk_drewN | apply blk_drew | apply blk_alloc); exact BK222.out) hb)
               have n2_ := Aside0.mk (below_step (by repeat (first | (with_reducible first | exact HB.out | apply below_alloc | apply pw_below_drewN | apply below_drew1 | refine below_set ?_ GE219.out | refine below_set ?_ GE222.out) | exact HB.out)) hb)
               clear BK219
               clear BK222
               clear HB
               have BK219 := n0_
               have BK222 := n1_
               have HB := n2_
               clear n0_ n1_ n2_
               (try clear hb)
               (try clear hb2)
               (try clear hk)
               (try clear hi)
               refine hK.out _ _ ⟨(blk_cell BK222.out 0).trans rfl, (blk_cell BK222.out 1).trans rfl, (blk_cell BK222.out 2).trans rfl, (blk_cell BK222.out 3).trans rfl, (blk_cell BK219.out 0).trans rfl, (blk_cell BK219.out 1).trans rfl, (blk_cell BK219.out 2).trans rfl, (clTr HB.out hw226_0), (clTr HB.out hw226_1), (clTr HB.out hw226_2), (clTr HB.out hw226_3)⟩ (fun hHeld => ?_)
               clear hK K
               refine norm_ (a' := ?_) ?_ ?_
               rotate_left
               ·show Act.put _ (some 47) _ = _
                simp only [Act.put, lstS, lstZ, lstC, i64_w, i32_w]
                rfl
               refine one_ (i := 28) (N := some 55) #[true, true, true, true, true, true, true, true, true, true, true, true, true, true, true, true, true, true, true, true, true, true, true, true, true, true, true, true, true, false, false, false] rfl rfl (one_of HT_.out (by kernel_rfl)) (by decide) (fun K hK => ?_)
               refine goes_ Try.func95 (by kernel_rfl) rfl #[.int .i64 a0, .agg #[.int .i64 ((rd_T65 l2 (ji21)).f0.f0), .int .i64 ((rd_T65 l2 (ji21)).f0.f1), .int .i64 ((rd_T65 l2 (ji21)).f0.f2)]] (by rfl) rfl rfl (by (try simp only [List.map_toArray, List.map_cons, List.map_nil]); first | done | (simp only [hji21]; rfl) | rfl | (simp only [List.length_drop, List.length_take]; rfl)) ?_
               with_reducible refine (impl_mark.calls k2 a0 ((rd_T65 l2 (ji21)).f0.f0) ((rd_T65 l2 (ji21)).f0.f1) ((rd_T65 l2 (ji21)).f0.f2) t227 _ A24.out).mono ?_
               rintro e w30 ⟨rfl, hb⟩
               refine ⟨_, rfl, ?_⟩
               have n0_ := Aside0.mk (blk_below (g := gb219) (o := .cells #[.int .i64 a1_0, .int .i64 a1_1, .int .i64 a1_2] 31 (0, 0)) (by (with_reducible repeat first | apply blk_drewN | apply blk_drew | apply blk_alloc); exact BK219.out) hb)
               have n1_ := Aside0.mk (blk_below (g := gb222) (o := .cells #[.int .i64 ((rd_T65 l2 x22_2).f0.f0), .int .i64 ((rd_T65 l2 x22_2).f0.f1), .int .i64 ((rd_T65 l2 x22_2).f0.f2), .int .i64 ((rd_T65 l2 x22_2).f1)] 65 (0, 0)) (by (with_reducible repeat first | apply blk_drewN | apply blk_drew | apply blk_alloc); exact BK222.out) hb)
               have n2_ := Aside0.mk (below_step (by repeat (first | (with_reducible first | exact HB.out | apply below_alloc | apply pw_below_drewN | apply below_drew1 | refine below_set ?_ GE219.out | refine below_set ?_ GE222.out) | exact HB.out)) hb)
               clear BK219
               clear BK222
               clear HB
               have BK219 := n0_
               have BK222 := n1_
               have HB := n2_
               clear n0_ n1_ n2_
               (try clear hb)
               (try clear hb2)
               (try clear hk)
               (try clear hi)
               refine hK.out _ _ ⟨(blk_cell BK222.out 0).trans rfl, (blk_cell BK222.out 1).trans rfl, (blk_cell BK222.out 2).trans rfl, (blk_cell BK222.out 3).trans rfl, (blk_cell BK219.out 0).trans rfl, (blk_cell BK219.out 1).trans rfl, (blk_cell BK219.out 2).trans rfl, (clTr HB.out hw226_0), (clTr HB.out hw226_1), (clTr HB.out hw226_2), (clTr HB.out hw226_3)⟩ (fun hHeld => ?_)
               clear hK K
               refine norm_ (a' := ?_) ?_ ?_
               rotate_left
               ·show Act.put _ (some 55) _ = _
                simp only [Act.put, lstS, lstZ, lstC, i64_w, i32_w]
                rfl
               refine pure_ (i := 29) (N := some 56) (v := ?_) (a' := ?_) #[true, true, true, true, true, true, true, true, true, true, true, true, true, true, true, true, true, true, true, true, true, true, true, true, true, true, true, true, true, true, false, false] rfl rfl (any_of HT_.out (by kernel_rfl)) (fun _ _ _ h => h) (Or.inl ⟨by rfl, ?_⟩) ?_ ?_
               rotate_left
               ·intro w'
                go_simp
                with_reducible rfl
               rotate_left
               ·simp only [Act.put, lstS, lstZ, lstC, i64_w, i32_w]
                rfl
               refine pure_ (i := 30) (N := some 57) (v := ?_) (a' := ?_) #[true, true, true, true, true, true, true, true, true, true, true, true, true, true, true, true, true, true, true, true, true, true, true, true, true, true, true, true, true, true, true, false] rfl rfl (any_of HT_.out (by kernel_rfl)) (fun _ _ _ h => h) (Or.inl ⟨by rfl, ?_⟩) ?_ ?_
               rotate_left
               ·intro w'
                go_simp
                with_reducible rfl
               rotate_left
               ·simp only [Act.put, lstS, lstZ, lstC, i64_w, i32_w]
                rfl
               refine pure_ (i := 31) (N := some 58) (v := ?_) (a' := ?_) #[true, true, true, true, true, true, true, true, true, true, true, true, true, true, true, true, true, true, true, true, true, true, true, true, true, true, true, true, true, true, true, true] rfl rfl (any_of HT_.out (by kernel_rfl)) (fun _ _ _ h => h) (Or.inl ⟨by rfl, ?_⟩) ?_ ?_
               rotate_left
               ·intro w'
                go_simp
                with_reducible rfl
               rotate_left
               ·simp only [Act.put, lstS, lstZ, lstC, i64_w, i32_w]
                rfl
               refine done_ (done_of HT_.out (by kernel_rfl)) ?_
               try go_wp2
               go_meet
               case rel => exact ⟨_, (decide (t225 ≤ t227)), (by first | rfl | (simp; done) | (simp [*]; done) | (simp [wrap64]; done)), H', ⟨by have := HJ3.out; have := HK2.out; first | omega | exact Nat.le_refl _⟩, ⟨by (with_reducible repeat first | apply blk_drewN | apply blk_drew | apply blk_alloc); exact BK219.out⟩, ⟨by (with_reducible repeat first | apply blk_drewN | apply blk_drew | apply blk_alloc); exact BK222.out⟩, ⟨by repeat (first | (with_reducible first | exact HB.out | apply below_alloc | apply pw_below_drewN | apply below_drew1 | refine below_set ?_ GE219.out | refine below_set ?_ GE222.out) | exact HB.out)⟩⟩
              ·rw [if_neg c23] at H
               exact absurd H (by simp)
             ·rw [if_neg c22] at H
              exact absurd H (by simp)
            ·rw [if_neg c19] at H
             have c19b0 : decide (0 < x22_2) = false := decide_eq_false c19
             clear c19
             (first | rw [c19b0] | (simp only [i64_w, i32_w]; rw [c19b0]) | skip)
             have H' := Aside0.mk H
             clear H
             try go_wp2
             have n0_ : Aside0 (((((w12.setCell ⟨gb222, 0, none⟩ (.int .i64 ((rd_T65 l2 x22_2).f0.f0))).setCell ⟨gb222, 1, none⟩ (.int .i64 ((rd_T65 l2 x22_2).f0.f1))).setCell ⟨gb222, 2, none⟩ (.int .i64 ((rd_T65 l2 x22_2).f0.f2))).setCell ⟨gb222, 3, none⟩ (.int .i64 ((rd_T65 l2 x22_2).f1))).heap[gb219]? = some (.cells #[.int .i64 a1_0, .int .i64 a1_1, .int .i64 a1_2] 31 (0, 0))) := ⟨by (with_reducible repeat first | apply blk_drewN | apply blk_drew | apply blk_alloc); refine blk_far ?_ NB219_222.out _; (with_reducible repeat first | apply blk_drewN | apply blk_drew | apply blk_alloc); refine blk_far ?_ NB219_222.out _; (with_reducible repeat first | apply blk_drewN | apply blk_drew | apply blk_alloc); refine blk_far ?_ NB219_222.out _; (with_reducible repeat first | apply blk_drewN | apply blk_drew | apply blk_alloc); refine blk_far ?_ NB219_222.out _; (with_reducible repeat first | apply blk_drewN | apply blk_drew | apply blk_alloc); exact BK219.out⟩
             have n1_ : Aside0 (((((w12.setCell ⟨gb222, 0, none⟩ (.int .i64 ((rd_T65 l2 x22_2).f0.f0))).setCell ⟨gb222, 1, none⟩ (.int .i64 ((rd_T65 l2 x22_2).f0.f1))).setCell ⟨gb222, 2, none⟩ (.int .i64 ((rd_T65 l2 x22_2).f0.f2))).setCell ⟨gb222, 3, none⟩ (.int .i64 ((rd_T65 l2 x22_2).f1))).heap[gb222]? = some (.cells #[.int .i64 ((rd_T65 l2 x22_2).f0.f0), .int .i64 ((rd_T65 l2 x22_2).f0.f1), .int .i64 ((rd_T65 l2 x22_2).f0.f2), .int .i64 ((rd_T65 l2 x22_2).f1)] 65 (0, 0))) := ⟨by (with_reducible repeat first | apply blk_drewN | apply blk_drew | apply blk_alloc); refine blk_put (cs := #[.int .i64 ((rd_T65 l2 x22_2).f0.f0), .int .i64 ((rd_T65 l2 x22_2).f0.f1), .int .i64 ((rd_T65 l2 x22_2).f0.f2), .int .i64 0]) ?_ 3 _ rfl; (with_reducible repeat first | apply blk_drewN | apply blk_drew | apply blk_alloc); refine blk_put (cs := #[.int .i64 ((rd_T65 l2 x22_2).f0.f0), .int .i64 ((rd_T65 l2 x22_2).f0.f1), .int .i64 0, .int .i64 0]) ?_ 2 _ rfl; (with_reducible repeat first | apply blk_drewN | apply blk_drew | apply blk_alloc); refine blk_put (cs := #[.int .i64 ((rd_T65 l2 x22_2).f0.f0), .int .i64 0, .int .i64 0, .int .i64 0]) ?_ 1 _ rfl; (with_reducible repeat first | apply blk_drewN | apply blk_drew | apply blk_alloc); refine blk_put (cs := #[.int .i64 0, .int .i64 0, .int .i64 0, .int .i64 0]) ?_ 0 _ rfl; (with_reducible repeat first | apply blk_drewN | apply blk_drew | apply blk_alloc); exact BK222.out⟩
             have n2_ : Aside0 (Below w.heap.size w ((((w12.setCell ⟨gb222, 0, none⟩ (.int .i64 ((rd_T65 l2 x22_2).f0.f0))).setCell ⟨gb222, 1, none⟩ (.int .i64 ((rd_T65 l2 x22_2).f0.f1))).setCell ⟨gb222, 2, none⟩ (.int .i64 ((rd_T65 l2 x22_2).f0.f2))).setCell ⟨gb222, 3, none⟩ (.int .i64 ((rd_T65 l2 x22_2).f1)))) := ⟨by repeat (first | (with_reducible first | exact HB.out | apply below_alloc | apply pw_below_drewN | apply below_drew1 | refine below_set ?_ GE219.out | refine below_set ?_ GE222.out) | exact HB.out)⟩
             (try clear BK219)
             (try clear BK222)
             (try clear HB)
             generalize ((((w12.setCell ⟨gb222, 0, none⟩ (.int .i64 ((rd_T65 l2 x22_2).f0.f0))).setCell ⟨gb222, 1, none⟩ (.int .i64 ((rd_T65 l2 x22_2).f0.f1))).setCell ⟨gb222, 2, none⟩ (.int .i64 ((rd_T65 l2 x22_2).f0.f2))).setCell ⟨gb222, 3, none⟩ (.int .i64 ((rd_T65 l2 x22_2).f1))) = w31 at n0_ n1_ n2_ ⊢
             have BK219 := n0_
             have BK222 := n1_
             have HB := n2_
             clear n0_ n1_ n2_
             have n0_ := Aside0.mk (blk_drew BK219.out)
             have n1_ := Aside0.mk (blk_drew BK222.out)
             have n2_ := Aside0.mk (below_drew1 HB.out)
             clear BK219
             clear BK222
             clear HB
             have BK219 := n0_
             have BK222 := n1_
             have HB := n2_
             clear n0_ n1_ n2_
             refine start_ (n := 32) (S := fun w' => w'.cell? ⟨gb222, 0, none⟩ = some (.int .i64 ((rd_T65 l2 x22_2).f0.f0)) ∧ w'.cell? ⟨gb222, 1, none⟩ = some (.int .i64 ((rd_T65 l2 x22_2).f0.f1)) ∧ w'.cell? ⟨gb222, 2, none⟩ = some (.int .i64 ((rd_T65 l2 x22_2).f0.f2)) ∧ w'.cell? ⟨gb222, 3, none⟩ = some (.int .i64 ((rd_T65 l2 x22_2).f1)) ∧ w'.cell? ⟨gb219, 0, none⟩ = some (.int .i64 a1_0) ∧ w'.cell? ⟨gb219, 1, none⟩ = some (.int .i64 a1_1) ∧ w'.cell? ⟨gb219, 2, none⟩ = some (.int .i64 a1_2)) (ds := []) #[false, false, false, false, false, false, false, false, false, false, false, false, false, false, false, false, false, false, false, false, false, false, false, false, false, false, false, false, false, false, false, false] (by kernel_rfl) rfl rfl ⟨(blk_cell BK222.out 0).trans rfl, (blk_cell BK222.out 1).trans rfl, (blk_cell BK222.out 2).trans rfl, (blk_cell BK222.out 3).trans rfl, (blk_cell BK219.out 0).trans rfl, (blk_cell BK219.out 1).trans rfl, (blk_cell BK219.out 2).trans rfl⟩ (fun hHeld => ?_); refine with_tabW impl_isPartition.tab7 impl_isPartition.bits7 (fun HT_ HW_ => ?_)
             generalize w31.drew = w32 at BK219 BK222 HB hHeld ⊢
             refine pure_ (i := 0) (N := some 27) (v := ?_) (a' := ?_) #[true, false, false, false, false, false, false, false, false, false, false, false, false, false, false, false, false, false, false, false, false, false, false, false, false, false, false, false, false, false, false, false] rfl rfl (any_of HT_.out (by kernel_rfl)) (fun _ _ _ h => h) (Or.inl ⟨by rfl, ?_⟩) ?_ ?_
             rotate_left
             ·intro w'
              go_simp
              with_reducible rfl
             rotate_left
             ·simp only [Act.put, lstS, lstZ, lstC, i64_w, i32_w]
              rfl
             refine pure_ (i := 1) (N := some 28) (v := ?_) (a' := ?_) #[true, true, false, false, false, false, false, false, false, false, false, false, false, false, false, false, false, false, false, false, false, false, false, false, false, false, false, false, false, false, false, false] rfl rfl (any_of HT_.out (by kernel_rfl)) (fun _ _ _ h => h) (Or.inl ⟨by rfl, ?_⟩) ?_ ?_
             rotate_left
             ·intro w'
              go_simp
              with_reducible rfl
             rotate_left
             ·simp only [Act.put, lstS, lstZ, lstC, i64_w, i32_w]
              rfl
             refine take_ (i := 2) (N := some 29) (v := ?_) (a' := ?_) #[true, true, true, false, false, false, false, false, false, false, false, false, false, false, false, false, false, false, false, false, false, false, false, false, false, false, false, false, false, false, false, false] rfl rfl (take_ofW HT_.out HW_.out (by kernel_rfl)) (fun _ _ _ h => h) (Or.inl ⟨by rfl, ?_⟩) hHeld ?_ ?_
             rotate_left
             ·rintro w' ⟨s0, s1, s2, s3, s4, s5, s6⟩
              go_simp
              with_reducible rfl
             rotate_left
             ·simp only [Act.put, lstS, lstZ, lstC, i64_w, i32_w]
              rfl
             refine one_ (i := 3) (N := some 30) #[true, true, true, true, false, false, false, false, false, false, false, false, false, false, false, false, false, false, false, false, false, false, false, false, false, false, false, false, false, false, false, false] rfl rfl (one_of HT_.out (by kernel_rfl)) (by decide) (fun K hK => ?_)
             refine goes_ Try.func71 (by kernel_rfl) rfl #[.int .i64 a0, .agg #[.int .i64 ((rd_T65 l2 x22_2).f0.f0), .int .i64 ((rd_T65 l2 x22_2).f0.f1), .int .i64 ((rd_T65 l2 x22_2).f0.f2)]] (by rfl) rfl rfl (by (try simp only [List.map_toArray, List.map_cons, List.map_nil]); first | done | rfl | (simp only [List.length_drop, List.length_take]; rfl)) ?_
             with_reducible refine (impl_IsBall.calls k2 a0 ((rd_T65 l2 x22_2).f0.f0) ((rd_T65 l2 x22_2).f0.f1) ((rd_T65 l2 x22_2).f0.f2) true _ A15.out).mono ?_
             rintro e w33 ⟨rfl, hb⟩
             refine ⟨_, rfl, ?_⟩
             have n0_ := Aside0.mk (blk_below (g := gb219) (o := .cells #[.int .i64 a1_0, .int .i64 a1_1, .int .i64 a1_2] 31 (0, 0)) (by (with_reducible repeat first | apply blk_drewN | apply blk_drew | apply blk_alloc); exact BK219.out) hb)
             have n1_ := Aside0.mk (blk_below (g := gb222) (o := .cells #[.int .i64 ((rd_T65 l2 x22_2).f0.f0), .int .i64 ((rd_T65 l2 x22_2).f0.f1), .int .i64 ((rd_T65 l2 x22_2).f0.f2), .int .i64 ((rd_T65 l2 x22_2).f1)] 65 (0, 0)) (by (with_reducible repeat first | apply blk_drewN | apply blk_drew | apply blk_alloc); exact BK222.out) hb)
             have n2_ := Aside0.mk (below_step (by repeat (first | (with_reducible first | exact HB.out | apply below_alloc | apply pw_below_drewN | apply below_drew1 | refine below_set ?_ GE219.out | refine below_set ?_ GE222.out) | exact HB.out)) hb)
             clear BK219
             clear BK222
             clear HB
             have BK219 := n0_
             have BK222 := n1_
             have HB := n2_
             clear n0_ n1_ n2_
             (try clear hb)
             (try clear hb2)
             (try clear hk)
             (try clear hi)
             refine hK.out _ _ ⟨(blk_cell BK222.out 0).trans rfl, (blk_cell BK222.out 1).trans rfl, (blk_cell BK222.out 2).trans rfl, (blk_cell BK222.out 3).trans rfl, (blk_cell BK219.out 0).trans rfl, (blk_cell BK219.out 1).trans rfl, (blk_cell BK219.out 2).trans rfl⟩ (fun hHeld => ?_)
             clear hK K
             refine norm_ (a' := ?_) ?_ ?_
             rotate_left
             ·show Act.put _ (some 30) _ = _
              simp only [Act.put, lstS, lstZ, lstC, i64_w, i32_w]
              rfl
             refine pure_ (i := 4) (N := some 31) (v := ?_) (a' := ?_) #[true, true, true, true, true, false, false, false, false, false, false, false, false, false, false, false, false, false, false, false, false, false, false, false, false, false, false, false, false, false, false, false] rfl rfl (any_of HT_.out (by kernel_rfl)) (fun _ _ _ h => h) (Or.inl ⟨by rfl, ?_⟩) ?_ ?_
             rotate_left
             ·intro w'
              go_simp
              with_reducible rfl
             rotate_left
             ·simp only [Act.put, lstS, lstZ, lstC, i64_w, i32_w]
              rfl
             refine pure_ (i := 5) (N := some 32) (v := ?_) (a' := ?_) #[true, true, true, true, true, true, false, false, false, false, false, false, false, false, false, false, false, false, false, false, false, false, false, false, false, false, false, false, false, false, false, false] rfl rfl (any_of HT_.out (by kernel_rfl)) (fun _ _ _ h => h) (Or.inl ⟨by rfl, ?_⟩) ?_ ?_
             rotate_left
             ·intro w'
              go_simp
              with_reducible rfl
             rotate_left
             ·simp only [Act.put, lstS, lstZ, lstC, i64_w, i32_w]
              rfl
             refine pure_ (i := 6) (N := some 33) (v := ?_) (a' := ?_) #[true, true, true, true, true, true, true, false, false, false, false, false, false, false, false, false, false, false, false, false, false, false, false, false, false, false, false, false, false, false, false, false] rfl rfl (any_of HT_.out (by kernel_rfl)) (fun _ _ _ h => h) (Or.inl ⟨by rfl, ?_⟩) ?_ ?_
             rotate_left
             ·intro w'
              go_simp
              with_reducible rfl
             rotate_left
             ·simp only [Act.put, lstS, lstZ, lstC, i64_w, i32_w]
              rfl
             refine pure_ (i := 8) (N := some 35) (v := ?_) (a' := ?_) #[true, true, true, true, true, true, true, false, true, false, false, false, false, false, false, false, false, false, false, false, false, false, false, false, false, false, false, false, false, false, false, false] rfl rfl (any_of HT_.out (by kernel_rfl)) (fun _ _ _ h => h) (Or.inl ⟨by rfl, ?_⟩) ?_ ?_
             rotate_left
             ·intro w'
              go_simp
              with_reducible rfl
             rotate_left
             ·simp only [Act.put, lstS, lstZ, lstC, i64_w, i32_w]
              rfl
             refine take_ (i := 7) (N := some 34) (v := ?_) (a' := ?_) #[true, true, true, true, true, true, true, true, true, false, false, false, false, false, false, false, false, false, false, false, false, false, false, false, false, false, false, false, false, false, false, false] rfl rfl (take_ofW HT_.out HW_.out (by kernel_rfl)) (fun _ _ _ h => h) (Or.inl ⟨by rfl, ?_⟩) hHeld ?_ ?_
             rotate_left
             ·rintro w' ⟨s0, s1, s2, s3, s4, s5, s6⟩
              go_simp
              with_reducible rfl
             rotate_left
             ·simp only [Act.put, lstS, lstZ, lstC, i64_w, i32_w]
              rfl
             refine take_ (i := 9) (N := some 36) (v := ?_) (a' := ?_) #[true, true, true, true, true, true, true, true, true, true, false, false, false, false, false, false, false, false, false, false, false, false, false, false, false, false, false, false, false, false, false, false] rfl rfl (take_ofW HT_.out HW_.out (by kernel_rfl)) (fun _ _ _ h => h) (Or.inl ⟨by rfl, ?_⟩) hHeld ?_ ?_
             rotate_left
             ·rintro w' ⟨s0, s1, s2, s3, s4, s5, s6⟩
              go_simp
              with_reducible rfl
             rotate_left
             ·simp only [Act.put, lstS, lstZ, lstC, i64_w, i32_w]
              rfl
             refine one_ (i := 10) (N := some 37) #[true, true, true, true, true, true, true, true, true, true, true, false, false, false, false, false, false, false, false, false, false, false, false, false, false, false, false, false, false, false, false, false] rfl rfl (one_of HT_.out (by kernel_rfl)) (by decide) (fun K hK => ?_)
             refine goes_ Try.func82 (by kernel_rfl) rfl #[.int .i64 a0, .agg #[.int .i64 a1_0, .int .i64 a1_1, .int .i64 a1_2], .agg #[.int .i64 ((rd_T65 l2 x22_2).f0.f0), .int .i64 ((rd_T65 l2 x22_2).f0.f1), .int .i64 ((rd_T65 l2 x22_2).f0.f2)]] (by rfl) rfl rfl (by (try simp only [List.map_toArray, List.map_cons, List.map_nil]); first | done | rfl | (simp only [List.length_drop, List.length_take]; rfl)) ?_
             with_reducible refine (impl_holds.calls k2 a0 a1_0 a1_1 a1_2 ((rd_T65 l2 x22_2).f0.f0) ((rd_T65 l2 x22_2).f0.f1) ((rd_T65 l2 x22_2).f0.f2) true _ A17.out).mono ?_
             rintro e w34 ⟨rfl, hb⟩
             refine ⟨_, rfl, ?_⟩
             have n0_ := Aside0.mk (blk_below (g := gb219) (o := .cells #[.int .i64 a1_0, .int .i64 a1_1, .int .i64 a1_2] 31 (0, 0)) (by (with_reducible repeat first | apply blk_drewN | apply blk_drew | apply blk_alloc); exact BK219.out) hb)
             have n1_ := Aside0.mk (blk_below (g := gb222) (o := .cells #[.int .i64 ((rd_T65 l2 x22_2).f0.f0), .int .i64 ((rd_T65 l2 x22_2).f0.f1), .int .i64 ((rd_T65 l2 x22_2).f0.f2), .int .i64 ((rd_T65 l2 x22_2).f1)] 65 (0, 0)) (by (with_reducible repeat first | apply blk_drewN | apply blk_drew | apply blk_alloc); exact BK222.out) hb)
             have n2_ := Aside0.mk (below_step (by repeat (first | (with_reducible first | exact HB.out | apply below_alloc | apply pw_below_drewN | apply below_drew1 | refine below_set ?_ GE219.out | refine below_set ?_ GE222.out) | exact HB.out)) hb)
             clear BK219
             clear BK222
             clear HB
             have BK219 := n0_
             have BK222 := n1_
             have HB := n2_
             clear n0_ n1_ n2_
             (try clear hb)
             (try clear hb2)
             (try clear hk)
             (try clear hi)
             refine hK.out _ _ ⟨(blk_cell BK222.out 0).trans rfl, (blk_cell BK222.out 1).trans rfl, (blk_cell BK222.out 2).trans rfl, (blk_cell BK222.out 3).trans rfl, (blk_cell BK219.out 0).trans rfl, (blk_cell BK219.out 1).trans rfl, (blk_cell BK219.out 2).trans rfl⟩ (fun hHeld => ?_)
             clear hK K
             refine norm_ (a' := ?_) ?_ ?_
             rotate_left
             ·show Act.put _ (some 37) _ = _
              simp only [Act.put, lstS, lstZ, lstC, i64_w, i32_w]
              rfl
             refine pure_ (i := 11) (N := some 38) (v := ?_) (a' := ?_) #[true, true, true, true, true, true, true, true, true, true, true, true, false, false, false, false, false, false, false, false, false, false, false, false, false, false, false, false, false, false, false, false] rfl rfl (any_of HT_.out (by kernel_rfl)) (fun _ _ _ h => h) (Or.inl ⟨by rfl, ?_⟩) ?_ ?_
             rotate_left
             ·intro w'
              go_simp
              with_reducible rfl
             rotate_left
             ·simp only [Act.put, lstS, lstZ, lstC, i64_w, i32_w]
              rfl
             refine pure_ (i := 12) (N := some 39) (v := ?_) (a' := ?_) #[true, true, true, true, true, true, true, true, true, true, true, true, true, false, false, false, false, false, false, false, false, false, false, false, false, false, false, false, false, false, false, false] rfl rfl (any_of HT_.out (by kernel_rfl)) (fun _ _ _ h => h) (Or.inl ⟨by rfl, ?_⟩) ?_ ?_
             rotate_left
             ·intro w'
              go_simp
              with_reducible rfl
             rotate_left
             ·simp only [Act.put, lstS, lstZ, lstC, i64_w, i32_w]
              rfl
             refine pure_ (i := 13) (N := some 40) (v := ?_) (a' := ?_) #[true, true, true, true, true, true, true, true, true, true, true, true, true, true, false, false, false, false, false, false, false, false, false, false, false, false, false, false, false, false, false, false] rfl rfl (any_of HT_.out (by kernel_rfl)) (fun _ _ _ h => h) (Or.inl ⟨by rfl, ?_⟩) ?_ ?_
             rotate_left
             ·intro w'
              go_simp
              with_reducible rfl
             rotate_left
             ·simp only [Act.put, lstS, lstZ, lstC, i64_w, i32_w]
              rfl
             refine pure_ (i := 14) (N := some 41) (v := ?_) (a' := ?_) #[true, true, true, true, true, true, true, true, true, true, true, true, true, true, true, false, false, false, false, false, false, false, false, false, false, false, false, false, false, false, false, false] rfl rfl (any_of HT_.out (by kernel_rfl)) (fun _ _ _ h => h) (Or.inl ⟨by rfl, ?_⟩) ?_ ?_
             rotate_left
             ·intro w'
              go_simp
              with_reducible rfl
             rotate_left
             ·simp only [Act.put, lstS, lstZ, lstC, i64_w, i32_w]
              rfl
             refine pure_ (i := 15) (N := some 42) (v := ?_) (a' := ?_) #[true, true, true, true, true, true, true, true, true, true, true, true, true, true, true, true, false, false, false, false, false, false, false, false, false, false, false, false, false, false, false, false] rfl rfl (any_of HT_.out (by kernel_rfl)) (fun _ _ _ h => h) (Or.inl ⟨by rfl, ?_⟩) ?_ ?_
             rotate_left
             ·intro w'
              go_simp
              with_reducible rfl
             rotate_left
             ·simp only [Act.put, lstS, lstZ, lstC, i64_w, i32_w]
              rfl
             refine pure_ (i := 16) (N := some 43) (v := ?_) (a' := ?_) #[true, true, true, true, true, true, true, true, true, true, true, true, true, true, true, true, true, false, false, false, false, false, false, false, false, false, false, false, false, false, false, false] rfl rfl (any_of HT_.out (by kernel_rfl)) (fun _ _ _ h => h) (Or.inl ⟨by rfl, ?_⟩) ?_ ?_
             rotate_left
             ·intro w'
              go_simp
              with_reducible rfl
             rotate_left
             ·simp only [Act.put, lstS, lstZ, lstC, i64_w, i32_w]
              rfl
             refine pure_ (i := 17) (N := some 44) (v := undef) (a' := ?_) #[true, true, true, true, true, true, true, true, true, true, true, true, true, true, true, true, true, true, false, false, false, false, false, false, false, false, false, false, false, false, false, false] rfl rfl (any_of HT_.out (by kernel_rfl)) (fun _ _ _ h => h) (Or.inr ⟨by rfl, rfl⟩) ?_ ?_
             rotate_left
             ·simp only [Act.put, lstS, lstZ, lstC, i64_w, i32_w]
              rfl
             refine pure_ (i := 18) (N := some 45) (v := undef) (a' := ?_) #[true, true, true, true, true, true, true, true, true, true, true, true, true, true, true, true, true, true, true, false, false, false, false, false, false, false, false, false, false, false, false, false] rfl rfl (any_of HT_.out (by kernel_rfl)) (fun _ _ _ h => h) (Or.inr ⟨by rfl, rfl⟩) ?_ ?_
             rotate_left
             ·simp only [Act.put, lstS, lstZ, lstC, i64_w, i32_w]
              rfl
             refine pure_ (i := 19) (N := some 46) (v := undef) (a' := ?_) #[true, true, true, true, true, true, true, true, true, true, true, true, true, true, true, true, true, true, true, true, false, false, false, false, false, false, false, false, false, false, false, false] rfl rfl (any_of HT_.out (by kernel_rfl)) (fun _ _ _ h => h) (Or.inr ⟨by rfl, rfl⟩) ?_ ?_
             rotate_left
             ·simp only [Act.put, lstS, lstZ, lstC, i64_w, i32_w]
              rfl
             refine pure_ (i := 20) (N := some 47) (v := undef) (a' := ?_) #[true, true, true, true, true, true, true, true, true, true, true, true, true, true, true, true, true, true, true, true, true, false, false, false, false, false, false, false, false, false, false, false] rfl rfl (any_of HT_.out (by kernel_rfl)) (fun _ _ _ h => h) (Or.inr ⟨by rfl, rfl⟩) ?_ ?_
             rotate_left
             ·simp only [Act.put, lstS, lstZ, lstC, i64_w, i32_w]
              rfl
             refine pure_ (i := 21) (N := some 48) (v := undef) (a' := ?_) #[true, true, true, true, true, true, true, true, true, true, true, true, true, true, true, true, true, true, true, true, true, true, false, false, false, false, false, false, false, false, false, false] rfl rfl (any_of HT_.out (by kernel_rfl)) (fun _ _ _ h => h) (Or.inr ⟨by rfl, rfl⟩) ?_ ?_
             rotate_left
             ·simp only [Act.put, lstS, lstZ, lstC, i64_w, i32_w]
              rfl
             refine pure_ (i := 22) (N := some 49) (v := undef) (a' := ?_) #[true, true, true, true, true, true, true, true, true, true, true, true, true, true, true, true, true, true, true, true, true, true, true, false, false, false, false, false, false, false, false, false] rfl rfl (any_of HT_.out (by kernel_rfl)) (fun _ _ _ h => h) (Or.inr ⟨by rfl, rfl⟩) ?_ ?_
             rotate_left
             ·simp only [Act.put, lstS, lstZ, lstC, i64_w, i32_w]
              rfl
             refine pure_ (i := 23) (N := some 50) (v := undef) (a' := ?_) #[true, true, true, true, true, true, true, true, true, true, true, true, true, true, true, true, true, true, true, true, true, true, true, true, false, false, false, false, false, false, false, false] rfl rfl (any_of HT_.out (by kernel_rfl)) (fun _ _ _ h => h) (Or.inr ⟨by rfl, rfl⟩) ?_ ?_
             rotate_left
             ·simp only [Act.put, lstS, lstZ, lstC, i64_w, i32_w]
              rfl
             refine pure_ (i := 24) (N := some 51) (v := undef) (a' := ?_) #[true, true, true, true, true, true, true, true, true, true, true, true, true, true, true, true, true, true, true, true, true, true, true, true, true, false, false, false, false, false, false, false] rfl rfl (any_of HT_.out (by kernel_rfl)) (fun _ _ _ h => h) (Or.inr ⟨by rfl, rfl⟩) ?_ ?_
             rotate_left
             ·simp only [Act.put, lstS, lstZ, lstC, i64_w, i32_w]
              rfl
             refine pure_ (i := 25) (N := some 52) (v := undef) (a' := ?_) #[true, true, true, true, true, true, true, true, true, true, true, true, true, true, true, true, true, true, true, true, true, true, true, true, true, true, false, false, false, false, false, false] rfl rfl (any_of HT_.out (by kernel_rfl)) (fun _ _ _ h => h) (Or.inr ⟨by rfl, rfl⟩) ?_ ?_
             rotate_left
             ·simp only [Act.put, lstS, lstZ, lstC, i64_w, i32_w]
              rfl
             refine pure_ (i := 26) (N := some 53) (v := undef) (a' := ?_) #[true, true, true, true, true, true, true, true, true, true, true, true, true, true, true, true, true, true, true, true, true, true, true, true, true, true, true, false, false, false, false, false] rfl rfl (any_of HT_.out (by kernel_rfl)) (fun _ _ _ h => h) (Or.inr ⟨by rfl, rfl⟩) ?_ ?_
             rotate_left
             ·simp only [Act.put, lstS, lstZ, lstC, i64_w, i32_w]
              rfl
             refine pure_ (i := 27) (N := some 54) (v := undef) (a' := ?_) #[true, true, true, true, true, true, true, true, true, true, true, true, true, true, true, true, true, true, true, true, true, true, true, true, true, true, true, true, false, false, false, false] rfl rfl (any_of HT_.out (by kernel_rfl)) (fun _ _ _ h => h) (Or.inr ⟨by rfl, rfl⟩) ?_ ?_
             rotate_left
             ·simp only [Act.put, lstS, lstZ, lstC, i64_w, i32_w]
              rfl
             refine pure_ (i := 28) (N := some 55) (v := undef) (a' := ?_) #[true, true, true, true, true, true, true, true, true, true, true, true, true, true, true, true, true, true, true, true, true, true, true, true, true, true, true, true, true, false, false, false] rfl rfl (any_of HT_.out (by kernel_rfl)) (fun _ _ _ h => h) (Or.inr ⟨by rfl, rfl⟩) ?_ ?_
             rotate_left
             ·simp only [Act.put, lstS, lstZ, lstC, i64_w, i32_w]
              rfl
             refine pure_ (i := 29) (N := some 56) (v := undef) (a' := ?_) #[true, true, true, true, true, true, true, true, true, true, true, true, true, true, true, true, true, true, true, true, true, true, true, true, true, true, true, true, true, true, false, false] rfl rfl (any_of HT_.out (by kernel_rfl)) (fun _ _ _ h => h) (Or.inr ⟨by rfl, rfl⟩) ?_ ?_
             rotate_left
             ·simp only [Act.put, lstS, lstZ, lstC, i64_w, i32_w]
              rfl
             refine pure_ (i := 30) (N := some 57) (v := ?_) (a' := ?_) #[true, true, true, true, true, true, true, true, true, true, true, true, true, true, true, true, true, true, true, true, true, true, true, true, true, true, true, true, true, true, true, false] rfl rfl (any_of HT_.out (by kernel_rfl)) (fun _ _ _ h => h) (Or.inl ⟨by rfl, ?_⟩) ?_ ?_
             rotate_left
             ·intro w'
              go_simp
              with_reducible rfl
             rotate_left
             ·simp only [Act.put, lstS, lstZ, lstC, i64_w, i32_w]
              rfl
             refine pure_ (i := 31) (N := some 58) (v := ?_) (a' := ?_) #[true, true, true, true, true, true, true, true, true, true, true, true, true, true, true, true, true, true, true, true, true, true, true, true, true, true, true, true, true, true, true, true] rfl rfl (any_of HT_.out (by kernel_rfl)) (fun _ _ _ h => h) (Or.inl ⟨by rfl, ?_⟩) ?_ ?_
             rotate_left
             ·intro w'
              go_simp
              with_reducible rfl
             rotate_left
             ·simp only [Act.put, lstS, lstZ, lstC, i64_w, i32_w]
              rfl
             refine done_ (done_of HT_.out (by kernel_rfl)) ?_
             try go_wp2
             go_meet
             case rel => exact ⟨_, (false), (by first | rfl | (simp; done) | (simp [*]; done) | (simp [wrap64]; done)), H', ⟨by have := HJ3.out; have := HK2.out; first | omega | exact Nat.le_refl _⟩, ⟨by (with_reducible repeat first | apply blk_drewN | apply blk_drew | apply blk_alloc); exact BK219.out⟩, ⟨by (with_reducible repeat first | apply blk_drewN | apply blk_drew | apply blk_alloc); exact BK222.out⟩, ⟨by repeat (first | (with_reducible first | exact HB.out | apply below_alloc | apply pw_below_drewN | apply below_drew1 | refine below_set ?_ GE219.out | refine below_set ?_ GE222.out) | exact HB.out)⟩⟩
           ·replace c18 := Bool.eq_false_iff.mpr c18
            subst c18
            have H1 : (impl_isPartition.j2 k2 a0 l2 x7_2 x22_2 l2 (l2.length : Int) x22_2 true a1_0 a1_1 a1_2 ((rd_T65 l2 x22_2).f0.f0) ((rd_T65 l2 x22_2).f0.f1) ((rd_T65 l2 x22_2).f0.f2) ((rd_T65 l2 x22_2).f1)) = some r := by rw [if_neg (show ¬ (false = true) by decide)] at H; exact H
            clear H
            have H := H1
            clear H1
            have H' := Aside0.mk H
            clear H
            try go_wp2
            have n0_ : Aside0 (((((w12.setCell ⟨gb222, 0, none⟩ (.int .i64 ((rd_T65 l2 x22_2).f0.f0))).setCell ⟨gb222, 1, none⟩ (.int .i64 ((rd_T65 l2 x22_2).f0.f1))).setCell ⟨gb222, 2, none⟩ (.int .i64 ((rd_T65 l2 x22_2).f0.f2))).setCell ⟨gb222, 3, none⟩ (.int .i64 ((rd_T65 l2 x22_2).f1))).heap[gb219]? = some (.cells #[.int .i64 a1_0, .int .i64 a1_1, .int .i64 a1_2] 31 (0, 0))) := ⟨by (with_reducible repeat first | apply blk_drewN | apply blk_drew | apply blk_alloc); refine blk_far ?_ NB219_222.out _; (with_reducible repeat first | apply blk_drewN | apply blk_drew | apply blk_alloc); refine blk_far ?_ NB219_222.out _; (with_reducible repeat first | apply blk_drewN | apply blk_drew | apply blk_alloc); refine blk_far ?_ NB219_222.out _; (with_reducible repeat first | apply blk_drewN | apply blk_drew | apply blk_alloc); refine blk_far ?_ NB219_222.out _; (with_reducible repeat first | apply blk_drewN | apply blk_drew | apply blk_alloc); exact BK219.out⟩
            have n1_ : Aside0 (((((w12.setCell ⟨gb222, 0, none⟩ (.int .i64 ((rd_T65 l2 x22_2).f0.f0))).setCell ⟨gb222, 1, none⟩ (.int .i64 ((rd_T65 l2 x22_2).f0.f1))).setCell ⟨gb222, 2, none⟩ (.int .i64 ((rd_T65 l2 x22_2).f0.f2))).setCell ⟨gb222, 3, none⟩ (.int .i64 ((rd_T65 l2 x22_2).f1))).heap[gb222]? = some (.cells #[.int .i64 ((rd_T65 l2 x22_2).f0.f0), .int .i64 ((rd_T65 l2 x22_2).f0.f1), .int .i64 ((rd_T65 l2 x22_2).f0.f2), .int .i64 ((rd_T65 l2 x22_2).f1)] 65 (0, 0))) := ⟨by (with_reducible repeat first | apply blk_drewN | apply blk_drew | apply blk_alloc); refine blk_put (cs := #[.int .i64 ((rd_T65 l2 x22_2).f0.f0), .int .i64 ((rd_T65 l2 x22_2).f0.f1), .int .i64 ((rd_T65 l2 x22_2).f0.f2), .int .i64 0]) ?_ 3 _ rfl; (with_reducible repeat first | apply blk_drewN | apply blk_drew | apply blk_alloc); refine blk_put (cs := #[.int .i64 ((rd_T65 l2 x22_2).f0.f0), .int .i64 ((rd_T65 l2 x22_2).f0.f1), .int .i64 0, .int .i64 0]) ?_ 2 _ rfl; (with_reducible repeat first | apply blk_drewN | apply blk_drew | apply blk_alloc); refine blk_put (cs := #[.int .i64 ((rd_T65 l2 x22_2).f0.f0), .int .i64 0, .int .i64 0, .int .i64 0]) ?_ 1 _ rfl; (with_reducible repeat first | apply blk_drewN | apply blk_drew | apply blk_alloc); refine blk_put (cs := #[.int .i64 0, .int .i64 0, .int .i64 0, .int .i64 0]) ?_ 0 _ rfl; (with_reducible repeat first | apply blk_drewN | apply blk_drew | apply blk_alloc); exact BK222.out⟩
            have n2_ : Aside0 (Below w.heap.size w ((((w12.setCell ⟨gb222, 0, none⟩ (.int .i64 ((rd_T65 l2 x22_2).f0.f0))).setCell ⟨gb222, 1, none⟩ (.int .i64 ((rd_T65 l2 x22_2).f0.f1))).setCell ⟨gb222, 2, none⟩ (.int .i64 ((rd_T65 l2 x22_2).f0.f2))).setCell ⟨gb222, 3, none⟩ (.int .i64 ((rd_T65 l2 x22_2).f1)))) := ⟨by repeat (first | (with_reducible first | exact HB.out | apply below_alloc | apply pw_below_drewN | apply below_drew1 | refine below_set ?_ GE219.out | refine below_set ?_ GE222.out) | exact HB.out)⟩
            (try clear BK219)
            (try clear BK222)
            (try clear HB)
            generalize ((((w12.setCell ⟨gb222, 0, none⟩ (.int .i64 ((rd_T65 l2 x22_2).f0.f0))).setCell ⟨gb222, 1, none⟩ (.int .i64 ((rd_T65 l2 x22_2).f0.f1))).setCell ⟨gb222, 2, none⟩ (.int .i64 ((rd_T65 l2 x22_2).f0.f2))).setCell ⟨gb222, 3, none⟩ (.int .i64 ((rd_T65 l2 x22_2).f1))) = w35 at n0_ n1_ n2_ ⊢
            have BK219 := n0_
            have BK222 := n1_
            have HB := n2_
            clear n0_ n1_ n2_
            have n0_ := Aside0.mk (blk_drew BK219.out)
            have n1_ := Aside0.mk (blk_drew BK222.out)
            have n2_ := Aside0.mk (below_drew1 HB.out)
            clear BK219
            clear BK222
            clear HB
            have BK219 := n0_
            have BK222 := n1_
            have HB := n2_
            clear n0_ n1_ n2_
            refine start_ (n := 32) (S := fun w' => w'.cell? ⟨gb222, 0, none⟩ = some (.int .i64 ((rd_T65 l2 x22_2).f0.f0)) ∧ w'.cell? ⟨gb222, 1, none⟩ = some (.int .i64 ((rd_T65 l2 x22_2).f0.f1)) ∧ w'.cell? ⟨gb222, 2, none⟩ = some (.int .i64 ((rd_T65 l2 x22_2).f0.f2)) ∧ w'.cell? ⟨gb222, 3, none⟩ = some (.int .i64 ((rd_T65 l2 x22_2).f1)) ∧ w'.cell? ⟨gb219, 0, none⟩ = some (.int .i64 a1_0) ∧ w'.cell? ⟨gb219, 1, none⟩ = some (.int .i64 a1_1) ∧ w'.cell? ⟨gb219, 2, none⟩ = some (.int .i64 a1_2)) (ds := []) #[false, false, false, false, false, false, false, false, false, false, false, false, false, false, false, false, false, false, false, false, false, false, false, false, false, false, false, false, false, false, false, false] (by kernel_rfl) rfl rfl ⟨(blk_cell BK222.out 0).trans rfl, (blk_cell BK222.out 1).trans rfl, (blk_cell BK222.out 2).trans rfl, (blk_cell BK222.out 3).trans rfl, (blk_cell BK219.out 0).trans rfl, (blk_cell BK219.out 1).trans rfl, (blk_cell BK219.out 2).trans rfl⟩ (fun hHeld => ?_); refine with_tabW impl_isPartition.tab7 impl_isPartition.bits7 (fun HT_ HW_ => ?_)
            generalize w35.drew = w36 at BK219 BK222 HB hHeld ⊢
            refine pure_ (i := 0) (N := some 27) (v := ?_) (a' := ?_) #[true, false, false, false, false, false, false, false, false, false, false, false, false, false, false, false, false, false, false, false, false, false, false, false, false, false, false, false, false, false, false, false] rfl rfl (any_of HT_.out (by kernel_rfl)) (fun _ _ _ h => h) (Or.inl ⟨by rfl, ?_⟩) ?_ ?_
            rotate_left
            ·intro w'
             go_simp
             with_reducible rfl
            rotate_left
            ·simp only [Act.put, lstS, lstZ, lstC, i64_w, i32_w]
             rfl
            refine pure_ (i := 1) (N := some 28) (v := ?_) (a' := ?_) #[true, true, false, false, false, false, false, false, false, false, false, false, false, false, false, false, false, false, false, false, false, false, false, false, false, false, false, false, false, false, false, false] rfl rfl (any_of HT_.out (by kernel_rfl)) (fun _ _ _ h => h) (Or.inl ⟨by rfl, ?_⟩) ?_ ?_
            rotate_left
            ·intro w'
             go_simp
             with_reducible rfl
            rotate_left
            ·simp only [Act.put, lstS, lstZ, lstC, i64_w, i32_w]
             rfl
            refine take_ (i := 2) (N := some 29) (v := ?_) (a' := ?_) #[true, true, true, false, false, false, false, false, false, false, false, false, false, false, false, false, false, false, false, false, false, false, false, false, false, false, false, false, false, false, false, false] rfl rfl (take_ofW HT_.out HW_.out (by kernel_rfl)) (fun _ _ _ h => h) (Or.inl ⟨by rfl, ?_⟩) hHeld ?_ ?_
            rotate_left
            ·rintro w' ⟨s0, s1, s2, s3, s4, s5, s6⟩
             go_simp
             with_reducible rfl
            rotate_left
            ·simp only [Act.put, lstS, lstZ, lstC, i64_w, i32_w]
             rfl
            refine one_ (i := 3) (N := some 30) #[true, true, true, true, false, false, false, false, false, false, false, false, false, false, false, false, false, false, false, false, false, false, false, false, false, false, false, false, false, false, false, false] rfl rfl (one_of HT_.out (by kernel_rfl)) (by decide) (fun K hK => ?_)
            refine goes_ Try.func71 (by kernel_rfl) rfl #[.int .i64 a0, .agg #[.int .i64 ((rd_T65 l2 x22_2).f0.f0), .int .i64 ((rd_T65 l2 x22_2).f0.f1), .int .i64 ((rd_T65 l2 x22_2).f0.f2)]] (by rfl) rfl rfl (by (try simp only [List.map_toArray, List.map_cons, List.map_nil]); first | done | rfl | (simp only [List.length_drop, List.length_take]; rfl)) ?_
            with_reducible refine (impl_IsBall.calls k2 a0 ((rd_T65 l2 x22_2).f0.f0) ((rd_T65 l2 x22_2).f0.f1) ((rd_T65 l2 x22_2).f0.f2) true _ A15.out).mono ?_
            rintro e w37 ⟨rfl, hb⟩
            refine ⟨_, rfl, ?_⟩
            have n0_ := Aside0.mk (blk_below (g := gb219) (o := .cells #[.int .i64 a1_0, .int .i64 a1_1, .int .i64 a1_2] 31 (0, 0)) (by (with_reducible repeat first | apply blk_drewN | apply blk_drew | apply blk_alloc); exact BK219.out) hb)
            have n1_ := Aside0.mk (blk_below (g := gb222) (o := .cells #[.int .i64 ((rd_T65 l2 x22_2).f0.f0), .int .i64 ((rd_T65 l2 x22_2).f0.f1), .int .i64 ((rd_T65 l2 x22_2).f0.f2), .int .i64 ((rd_T65 l2 x22_2).f1)] 65 (0, 0)) (by (with_reducible repeat first | apply blk_drewN | apply blk_drew | apply blk_alloc); exact BK222.out) hb)
            have n2_ := Aside0.mk (below_step (by repeat (first | (with_reducible first | exact HB.out | apply below_alloc | apply pw_below_drewN | apply below_drew1 | refine below_set ?_ GE219.out | refine below_set ?_ GE222.out) | exact HB.out)) hb)
            clear BK219
            clear BK222
            clear HB
            have BK219 := n0_
            have BK222 := n1_
            have HB := n2_
            clear n0_ n1_ n2_
            (try clear hb)
            (try clear hb2)
            (try clear hk)
            (try clear hi)
            refine hK.out _ _ ⟨(blk_cell BK222.out 0).trans rfl, (blk_cell BK222.out 1).trans rfl, (blk_cell BK222.out 2).trans rfl, (blk_cell BK222.out 3).trans rfl, (blk_cell BK219.out 0).trans rfl, (blk_cell BK219.out 1).trans rfl, (blk_cell BK219.out 2).trans rfl⟩ (fun hHeld => ?_)
            clear hK K
            refine norm_ (a' := ?_) ?_ ?_
            rotate_left
            ·show Act.put _ (some 30) _ = _
             simp only [Act.put, lstS, lstZ, lstC, i64_w, i32_w]
             rfl
            refine pure_ (i := 4) (N := some 31) (v := ?_) (a' := ?_) #[true, true, true, true, true, false, false, false, false, false, false, false, false, false, false, false, false, false, false, false, false, false, false, false, false, false, false, false, false, false, false, false] rfl rfl (any_of HT_.out (by kernel_rfl)) (fun _ _ _ h => h) (Or.inl ⟨by rfl, ?_⟩) ?_ ?_
            rotate_left
            ·intro w'
             go_simp
             with_reducible rfl
            rotate_left
            ·simp only [Act.put, lstS, lstZ, lstC, i64_w, i32_w]
             rfl
            refine pure_ (i := 5) (N := some 32) (v := ?_) (a' := ?_) #[true, true, true, true, true, true, false, false, false, false, false, false, false, false, false, false, false, false, false, false, false, false, false, false, false, false, false, false, false, false, false, false] rfl rfl (any_of HT_.out (by kernel_rfl)) (fun _ _ _ h => h) (Or.inl ⟨by rfl, ?_⟩) ?_ ?_
            rotate_left
            ·intro w'
             go_simp
             with_reducible rfl
            rotate_left
            ·simp only [Act.put, lstS, lstZ, lstC, i64_w, i32_w]
             rfl
            refine pure_ (i := 6) (N := some 33) (v := ?_) (a' := ?_) #[true, true, true, true, true, true, true, false, false, false, false, false, false, false, false, false, false, false, false, false, false, false, false, false, false, false, false, false, false, false, false, false] rfl rfl (any_of HT_.out (by kernel_rfl)) (fun _ _ _ h => h) (Or.inl ⟨by rfl, ?_⟩) ?_ ?_
            rotate_left
            ·intro w'
             go_simp
             with_reducible rfl
            rotate_left
            ·simp only [Act.put, lstS, lstZ, lstC, i64_w, i32_w]
             rfl
            refine pure_ (i := 8) (N := some 35) (v := ?_) (a' := ?_) #[true, true, true, true, true, true, true, false, true, false, false, false, false, false, false, false, false, false, false, false, false, false, false, false, false, false, false, false, false, false, false, false] rfl rfl (any_of HT_.out (by kernel_rfl)) (fun _ _ _ h => h) (Or.inl ⟨by rfl, ?_⟩) ?_ ?_
            rotate_left
            ·intro w'
             go_simp
             with_reducible rfl
            rotate_left
            ·simp only [Act.put, lstS, lstZ, lstC, i64_w, i32_w]
             rfl
            refine take_ (i := 7) (N := some 34) (v := ?_) (a' := ?_) #[true, true, true, true, true, true, true, true, true, false, false, false, false, false, false, false, false, false, false, false, false, false, false, false, false, false, false, false, false, false, false, false] rfl rfl (take_ofW HT_.out HW_.out (by kernel_rfl)) (fun _ _ _ h => h) (Or.inl ⟨by rfl, ?_⟩) hHeld ?_ ?_
            rotate_left
            ·rintro w' ⟨s0, s1, s2, s3, s4, s5, s6⟩
             go_simp
             with_reducible rfl
            rotate_left
            ·simp only [Act.put, lstS, lstZ, lstC, i64_w, i32_w]
             rfl
            refine take_ (i := 9) (N := some 36) (v := ?_) (a' := ?_) #[true, true, true, true, true, true, true, true, true, true, false, false, false, false, false, false, false, false, false, false, false, false, false, false, false, false, false, false, false, false, false, false] rfl rfl (take_ofW HT_.out HW_.out (by kernel_rfl)) (fun _ _ _ h => h) (Or.inl ⟨by rfl, ?_⟩) hHeld ?_ ?_
            rotate_left
            ·rintro w' ⟨s0, s1, s2, s3, s4, s5, s6⟩
             go_simp
             with_reducible rfl
            rotate_left
            ·simp only [Act.put, lstS, lstZ, lstC, i64_w, i32_w]
             rfl
            refine one_ (i := 10) (N := some 37) #[true, true, true, true, true, true, true, true, true, true, true, false, false, false, false, false, false, false, false, false, false, false, false, false, false, false, false, false, false, false, false, false] rfl rfl (one_of HT_.out (by kernel_rfl)) (by decide) (fun K hK => ?_)
            refine goes_ Try.func82 (by kernel_rfl) rfl #[.int .i64 a0, .agg #[.int .i64 a1_0, .int .i64 a1_1, .int .i64 a1_2], .agg #[.int .i64 ((rd_T65 l2 x22_2).f0.f0), .int .i64 ((rd_T65 l2 x22_2).f0.f1), .int .i64 ((rd_T65 l2 x22_2).f0.f2)]] (by rfl) rfl rfl (by (try simp only [List.map_toArray, List.map_cons, List.map_nil]); first | done | rfl | (simp only [List.length_drop, List.length_take]; rfl)) ?_
            with_reducible refine (impl_holds.calls k2 a0 a1_0 a1_1 a1_2 ((rd_T65 l2 x22_2).f0.f0) ((rd_T65 l2 x22_2).f0.f1) ((rd_T65 l2 x22_2).f0.f2) false _ A17.out).mono ?_
            rintro e w38 ⟨rfl, hb⟩
            refine ⟨_, rfl, ?_⟩
            have n0_ := Aside0.mk (blk_below (g := gb219) (o := .cells #[.int .i64 a1_0, .int .i64 a1_1, .int .i64 a1_2] 31 (0, 0)) (by (with_reducible repeat first | apply blk_drewN | apply blk_drew | apply blk_alloc); exact BK219.out) hb)
            have n1_ := Aside0.mk (blk_below (g := gb222) (o := .cells #[.int .i64 ((rd_T65 l2 x22_2).f0.f0), .int .i64 ((rd_T65 l2 x22_2).f0.f1), .int .i64 ((rd_T65 l2 x22_2).f0.f2), .int .i64 ((rd_T65 l2 x22_2).f1)] 65 (0, 0)) (by (with_reducible repeat first | apply blk_drewN | apply blk_drew | apply blk_alloc); exact BK222.out) hb)
            have n2_ := Aside0.mk (below_step (by repeat (first | (with_reducible first | exact HB.out | apply below_alloc | apply pw_below_drewN | apply below_drew1 | refine below_set ?_ GE219.out | refine below_set ?_ GE222.out) | exact HB.out)) hb)
            clear BK219
            clear BK222
            clear HB
            have BK219 := n0_
            have BK222 := n1_
            have HB := n2_
            clear n0_ n1_ n2_
            (try clear hb)
            (try clear hb2)
            (try clear hk)
            (try clear hi)
            refine hK.out _ _ ⟨(blk_cell BK222.out 0).trans rfl, (blk_cell BK222.out 1).trans rfl, (blk_cell BK222.out 2).trans rfl, (blk_cell BK222.out 3).trans rfl, (blk_cell BK219.out 0).trans rfl, (blk_cell BK219.out 1).trans rfl, (blk_cell BK219.out 2).trans rfl⟩ (fun hHeld => ?_)
            clear hK K
            refine norm_ (a' := ?_) ?_ ?_
            rotate_left
            ·show Act.put _ (some 37) _ = _
             simp only [Act.put, lstS, lstZ, lstC, i64_w, i32_w]
             rfl
            refine pure_ (i := 11) (N := some 38) (v := ?_) (a' := ?_) #[true, true, true, true, true, true, true, true, true, true, true, true, false, false, false, false, false, false, false, false, false, false, false, false, false, false, false, false, false, false, false, false] rfl rfl (any_of HT_.out (by kernel_rfl)) (fun _ _ _ h => h) (Or.inl ⟨by rfl, ?_⟩) ?_ ?_
            rotate_left
            ·intro w'
             go_simp
             with_reducible rfl
            rotate_left
            ·simp only [Act.put, lstS, lstZ, lstC, i64_w, i32_w]
             rfl
            refine pure_ (i := 12) (N := some 39) (v := ?_) (a' := ?_) #[true, true, true, true, true, true, true, true, true, true, true, true, true, false, false, false, false, false, false, false, false, false, false, false, false, false, false, false, false, false, false, false] rfl rfl (any_of HT_.out (by kernel_rfl)) (fun _ _ _ h => h) (Or.inl ⟨by rfl, ?_⟩) ?_ ?_
            rotate_left
            ·intro w'
             go_simp
             with_reducible rfl
            rotate_left
            ·simp only [Act.put, lstS, lstZ, lstC, i64_w, i32_w]
             rfl
            refine pure_ (i := 13) (N := some 40) (v := ?_) (a' := ?_) #[true, true, true, true, true, true, true, true, true, true, true, true, true, true, false, false, false, false, false, false, false, false, false, false, false, false, false, false, false, false, false, false] rfl rfl (any_of HT_.out (by kernel_rfl)) (fun _ _ _ h => h) (Or.inl ⟨by rfl, ?_⟩) ?_ ?_
            rotate_left
            ·intro w'
             go_simp
             with_reducible rfl
            rotate_left
            ·simp only [Act.put, lstS, lstZ, lstC, i64_w, i32_w]
             rfl
            refine pure_ (i := 14) (N := some 41) (v := undef) (a' := ?_) #[true, true, true, true, true, true, true, true, true, true, true, true, true, true, true, false, false, false, false, false, false, false, false, false, false, false, false, false, false, false, false, false] rfl rfl (any_of HT_.out (by kernel_rfl)) (fun _ _ _ h => h) (Or.inr ⟨by rfl, rfl⟩) ?_ ?_
            rotate_left
            ·simp only [Act.put, lstS, lstZ, lstC, i64_w, i32_w]
             rfl
            refine pure_ (i := 15) (N := some 42) (v := undef) (a' := ?_) #[true, true, true, true, true, true, true, true, true, true, true, true, true, true, true, true, false, false, false, false, false, false, false, false, false, false, false, false, false, false, false, false] rfl rfl (any_of HT_.out (by kernel_rfl)) (fun _ _ _ h => h) (Or.inr ⟨by rfl, rfl⟩) ?_ ?_
            rotate_left
            ·simp only [Act.put, lstS, lstZ, lstC, i64_w, i32_w]
             rfl
            refine pure_ (i := 16) (N := some 43) (v := undef) (a' := ?_) #[true, true, true, true, true, true, true, true, true, true, true, true, true, true, true, true, true, false, false, false, false, false, false, false, false, false, false, false, false, false, false, false] rfl rfl (any_of HT_.out (by kernel_rfl)) (fun _ _ _ h => h) (Or.inr ⟨by rfl, rfl⟩) ?_ ?_
            rotate_left
            ·simp only [Act.put, lstS, lstZ, lstC, i64_w, i32_w]
             rfl
            refine pure_ (i := 17) (N := some 44) (v := undef) (a' := ?_) #[true, true, true, true, true, true, true, true, true, true, true, true, true, true, true, true, true, true, false, false, false, false, false, false, false, false, false, false, false, false, false, false] rfl rfl (any_of HT_.out (by kernel_rfl)) (fun _ _ _ h => h) (Or.inr ⟨by rfl, rfl⟩) ?_ ?_
            rotate_left
            ·simp only [Act.put, lstS, lstZ, lstC, i64_w, i32_w]
             rfl
            refine pure_ (i := 18) (N := some 45) (v := undef) (a' := ?_) #[true, true, true, true, true, true, true, true, true, true, true, true, true, true, true, true, true, true, true, false, false, false, false, false, false, false, false, false, false, false, false, false] rfl rfl (any_of HT_.out (by kernel_rfl)) (fun _ _ _ h => h) (Or.inr ⟨by rfl, rfl⟩) ?_ ?_
            rotate_left
            ·simp only [Act.put, lstS, lstZ, lstC, i64_w, i32_w]
             rfl
            refine pure_ (i := 19) (N := some 46) (v := undef) (a' := ?_) #[true, true, true, true, true, true, true, true, true, true, true, true, true, true, true, true, true, true, true, true, false, false, false, false, false, false, false, false, false, false, false, false] rfl rfl (any_of HT_.out (by kernel_rfl)) (fun _ _ _ h => h) (Or.inr ⟨by rfl, rfl⟩) ?_ ?_
            rotate_left
            ·simp only [Act.put, lstS, lstZ, lstC, i64_w, i32_w]
             rfl
            refine pure_ (i := 20) (N := some 47) (v := undef) (a' := ?_) #[true, true, true, true, true, true, true, true, true, true, true, true, true, true, true, true, true, true, true, true, true, false, false, false, false, false, false, false, false, false, false, false] rfl rfl (any_of HT_.out (by kernel_rfl)) (fun _ _ _ h => h) (Or.inr ⟨by rfl, rfl⟩) ?_ ?_
            rotate_left
            ·simp only [Act.put, lstS, lstZ, lstC, i64_w, i32_w]
             rfl
            refine pure_ (i := 21) (N := some 48) (v := undef) (a' := ?_) #[true, true, true, true, true, true, true, true, true, true, true, true, true, true, true, true, true, true, true, true, true, true, false, false, false, false, false, false, false, false, false, false] rfl rfl (any_of HT_.out (by kernel_rfl)) (fun _ _ _ h => h) (Or.inr ⟨by rfl, rfl⟩) ?_ ?_
            rotate_left
            ·simp only [Act.put, lstS, lstZ, lstC, i64_w, i32_w]
             rfl
            refine pure_ (i := 22) (N := some 49) (v := undef) (a' := ?_) #[true, true, true, true, true, true, true, true, true, true, true, true, true, true, true, true, true, true, true, true, true, true, true, false, false, false, false, false, false, false, false, false] rfl rfl (any_of HT_.out (by kernel_rfl)) (fun _ _ _ h => h) (Or.inr ⟨by rfl, rfl⟩) ?_ ?_
            rotate_left
            ·simp only [Act.put, lstS, lstZ, lstC, i64_w, i32_w]
             rfl
            refine pure_ (i := 23) (N := some 50) (v := undef) (a' := ?_) #[true, true, true, true, true, true, true, true, true, true, true, true, true, true, true, true, true, true, true, true, true, true, true, true, false, false, false, false, false, false, false, false] rfl rfl (any_of HT_.out (by kernel_rfl)) (fun _ _ _ h => h) (Or.inr ⟨by rfl, rfl⟩) ?_ ?_
            rotate_left
            ·simp only [Act.put, lstS, lstZ, lstC, i64_w, i32_w]
             rfl
            refine pure_ (i := 24) (N := some 51) (v := undef) (a' := ?_) #[true, true, true, true, true, true, true, true, true, true, true, true, true, true, true, true, true, true, true, true, true, true, true, true, true, false, false, false, false, false, false, false] rfl rfl (any_of HT_.out (by kernel_rfl)) (fun _ _ _ h => h) (Or.inr ⟨by rfl, rfl⟩) ?_ ?_
            rotate_left
            ·simp only [Act.put, lstS, lstZ, lstC, i64_w, i32_w]
             rfl
            refine pure_ (i := 25) (N := some 52) (v := undef) (a' := ?_) #[true, true, true, true, true, true, true, true, true, true, true, true, true, true, true, true, true, true, true, true, true, true, true, true, true, true, false, false, false, false, false, false] rfl rfl (any_of HT_.out (by kernel_rfl)) (fun _ _ _ h => h) (Or.inr ⟨by rfl, rfl⟩) ?_ ?_
            rotate_left
            ·simp only [Act.put, lstS, lstZ, lstC, i64_w, i32_w]
             rfl
            refine pure_ (i := 26) (N := some 53) (v := undef) (a' := ?_) #[true, true, true, true, true, true, true, true, true, true, true, true, true, true, true, true, true, true, true, true, true, true, true, true, true, true, true, false, false, false, false, false] rfl rfl (any_of HT_.out (by kernel_rfl)) (fun _ _ _ h => h) (Or.inr ⟨by rfl, rfl⟩) ?_ ?_
            rotate_left
            ·simp only [Act.put, lstS, lstZ, lstC, i64_w, i32_w]
             rfl
            refine pure_ (i := 27) (N := some 54) (v := undef) (a' := ?_) #[true, true, true, true, true, true, true, true, true, true, true, true, true, true, true, true, true, true, true, true, true, true, true, true, true, true, true, true, false, false, false, false] rfl rfl (any_of HT_.out (by kernel_rfl)) (fun _ _ _ h => h) (Or.inr ⟨by rfl, rfl⟩) ?_ ?_
            rotate_left
            ·simp only [Act.put, lstS, lstZ, lstC, i64_w, i32_w]
             rfl
            refine pure_ (i := 28) (N := some 55) (v := undef) (a' := ?_) #[true, true, true, true, true, true, true, true, true, true, true, true, true, true, true, true, true, true, true, true, true, true, true, true, true, true, true, true, true, false, false, false] rfl rfl (any_of HT_.out (by kernel_rfl)) (fun _ _ _ h => h) (Or.inr ⟨by rfl, rfl⟩) ?_ ?_
            rotate_left
            ·simp only [Act.put, lstS, lstZ, lstC, i64_w, i32_w]
             rfl
            refine pure_ (i := 29) (N := some 56) (v := undef) (a' := ?_) #[true, true, true, true, true, true, true, true, true, true, true, true, true, true, true, true, true, true, true, true, true, true, true, true, true, true, true, true, true, true, false, false] rfl rfl (any_of HT_.out (by kernel_rfl)) (fun _ _ _ h => h) (Or.inr ⟨by rfl, rfl⟩) ?_ ?_
            rotate_left
            ·simp only [Act.put, lstS, lstZ, lstC, i64_w, i32_w]
             rfl
            refine pure_ (i := 30) (N := some 57) (v := undef) (a' := ?_) #[true, true, true, true, true, true, true, true, true, true, true, true, true, true, true, true, true, true, true, true, true, true, true, true, true, true, true, true, true, true, true, false] rfl rfl (any_of HT_.out (by kernel_rfl)) (fun _ _ _ h => h) (Or.inr ⟨by rfl, rfl⟩) ?_ ?_
            rotate_left
            ·simp only [Act.put, lstS, lstZ, lstC, i64_w, i32_w]
             rfl
            refine pure_ (i := 31) (N := some 58) (v := ?_) (a' := ?_) #[true, true, true, true, true, true, true, true, true, true, true, true, true, true, true, true, true, true, true, true, true, true, true, true, true, true, true, true, true, true, true, true] rfl rfl (any_of HT_.out (by kernel_rfl)) (fun _ _ _ h => h) (Or.inl ⟨by rfl, ?_⟩) ?_ ?_
            rotate_left
            ·intro w'
             go_simp
             with_reducible rfl
            rotate_left
            ·simp only [Act.put, lstS, lstZ, lstC, i64_w, i32_w]
             rfl
            refine done_ (done_of HT_.out (by kernel_rfl)) ?_
            try go_wp2
            go_meet
            case rel => exact ⟨_, (true), (by first | rfl | (simp; done) | (simp [*]; done) | (simp [wrap64]; done)), H', ⟨by have := HJ3.out; have := HK2.out; first | omega | exact Nat.le_refl _⟩, ⟨by (with_reducible repeat first | apply blk_drewN | apply blk_drew | apply blk_alloc); exact BK219.out⟩, ⟨by (with_reducible repeat first | apply blk_drewN | apply blk_drew | apply blk_alloc); exact BK222.out⟩, ⟨by repeat (first | (with_reducible first | exact HB.out | apply below_alloc | apply pw_below_drewN | apply below_drew1 | refine below_set ?_ GE219.out | refine below_set ?_ GE222.out) | exact HB.out)⟩⟩
          ·replace c16 := Bool.eq_false_iff.mpr c16
           subst c16
           have H1 : (impl_isPartition.j2 k2 a0 l2 x7_2 x22_2 l2 (l2.length : Int) x22_2 true a1_0 a1_1 a1_2 ((rd_T65 l2 x22_2).f0.f0) ((rd_T65 l2 x22_2).f0.f1) ((rd_T65 l2 x22_2).f0.f2) ((rd_T65 l2 x22_2).f1)) = some r := by rw [if_neg (show ¬ (false = true) by decide)] at H; exact H
           clear H
           have H := H1
           clear H1
           have H' := Aside0.mk H
           clear H
           try go_wp2
           have n0_ : Aside0 (((((w12.setCell ⟨gb222, 0, none⟩ (.int .i64 ((rd_T65 l2 x22_2).f0.f0))).setCell ⟨gb222, 1, none⟩ (.int .i64 ((rd_T65 l2 x22_2).f0.f1))).setCell ⟨gb222, 2, none⟩ (.int .i64 ((rd_T65 l2 x22_2).f0.f2))).setCell ⟨gb222, 3, none⟩ (.int .i64 ((rd_T65 l2 x22_2).f1))).heap[gb219]? = some (.cells #[.int .i64 a1_0, .int .i64 a1_1, .int .i64 a1_2] 31 (0, 0))) := ⟨by (with_reducible repeat first | apply blk_drewN | apply blk_drew | apply blk_alloc); refine blk_far ?_ NB219_222.out _; (with_reducible repeat first | apply blk_drewN | apply blk_drew | apply blk_alloc); refine blk_far ?_ NB219_222.out _; (with_reducible repeat first | apply blk_drewN | apply blk_drew | apply blk_alloc); refine blk_far ?_ NB219_222.out _; (with_reducible repeat first | apply blk_drewN | apply blk_drew | apply blk_alloc); refine blk_far ?_ NB219_222.out _; (with_reducible repeat first | apply blk_drewN | apply blk_drew | apply blk_alloc); exact BK219.out⟩
           have n1_ : Aside0 (((((w12.setCell ⟨gb222, 0, none⟩ (.int .i64 ((rd_T65 l2 x22_2).f0.f0))).setCell ⟨gb222, 1, none⟩ (.int .i64 ((rd_T65 l2 x22_2).f0.f1))).setCell ⟨gb222, 2, none⟩ (.int .i64 ((rd_T65 l2 x22_2).f0.f2))).setCell ⟨gb222, 3, none⟩ (.int .i64 ((rd_T65 l2 x22_2).f1))).heap[gb222]? = some (.cells #[.int .i64 ((rd_T65 l2 x22_2).f0.f0), .int .i64 ((rd_T65 l2 x22_2).f0.f1), .int .i64 ((rd_T65 l2 x22_2).f0.f2), .int .i64 ((rd_T65 l2 x22_2).f1)] 65 (0, 0))) := ⟨by (with_reducible repeat first | apply blk_drewN | apply blk_drew | apply blk_alloc); refine blk_put (cs := #[.int .i64 ((rd_T65 l2 x22_2).f0.f0), .int .i64 ((rd_T65 l2 x22_2).f0.f1), .int .i64 ((rd_T65 l2 x22_2).f0.f2), .int .i64 0]) ?_ 3 _ rfl; (with_reducible repeat first | apply blk_drewN | apply blk_drew | apply blk_alloc); refine blk_put (cs := #[.int .i64 ((rd_T65 l2 x22_2).f0.f0), .int .i64 ((rd_T65 l2 x22_2).f0.f1), .int .i64 0, .int .i64 0]) ?_ 2 _ rfl; (with_reducible repeat first | apply blk_drewN | apply blk_drew | apply blk_alloc); refine blk_put (cs := #[.int .i64 ((rd_T65 l2 x22_2).f0.f0), .int .i64 0, .int .i64 0, .int .i64 0]) ?_ 1 _ rfl; (with_reducible repeat first | apply blk_drewN | apply blk_drew | apply blk_alloc); refine blk_put (cs := #[.int .i64 0, .int .i64 0, .int .i64 0, .int .i64 0]) ?_ 0 _ rfl; (with_reducible repeat first | apply blk_drewN | apply blk_drew | apply blk_alloc); exact BK222.out⟩
           have n2_ : Aside0 (Below w.heap.size w ((((w12.setCell ⟨gb222, 0, none⟩ (.int .i64 ((rd_T65 l2 x22_2).f0.f0))).setCell ⟨gb222, 1, none⟩ (.int .i64 ((rd_T65 l2 x22_2).f0.f1))).setCell ⟨gb222, 2, none⟩ (.int .i64 ((rd_T65 l2 x22_2).f0.f2))).setCell ⟨gb222, 3, none⟩ (.int .i64 ((rd_T65 l2 x22_2).f1)))) := ⟨by repeat (first | (with_reducible first | exact HB.out | apply below_alloc | apply pw_below_drewN | apply below_drew1 | refine below_set ?_ GE219.out | refine below_set ?_ GE222.out) | exact HB.out)⟩
           (try clear BK219)
           (try clear BK222)
           (try clear HB)
           generalize ((((w12.setCell ⟨gb222, 0, none⟩ (.int .i64 ((rd_T65 l2 x22_2).f0.f0))).setCell ⟨gb222, 1, none⟩ (.int .i64 ((rd_T65 l2 x22_2).f0.f1))).setCell ⟨gb222, 2, none⟩ (.int .i64 ((rd_T65 l2 x22_2).f0.f2))).setCell ⟨gb222, 3, none⟩ (.int .i64 ((rd_T65 l2 x22_2).f1))) = w39 at n0_ n1_ n2_ ⊢
           have BK219 := n0_
           have BK222 := n1_
           have HB := n2_
           clear n0_ n1_ n2_
           have n0_ := Aside0.mk (blk_drew BK219.out)
           have n1_ := Aside0.mk (blk_drew BK222.out)
           have n2_ := Aside0.mk (below_drew1 HB.out)
           clear BK219
           clear BK222
           clear HB
           have BK219 := n0_
           have BK222 := n1_
           have HB := n2_
           clear n0_ n1_ n2_
           refine start_ (n := 32) (S := fun w' => w'.cell? ⟨gb222, 0, none⟩ = some (.int .i64 ((rd_T65 l2 x22_2).f0.f0)) ∧ w'.cell? ⟨gb222, 1, none⟩ = some (.int .i64 ((rd_T65 l2 x22_2).f0.f1)) ∧ w'.cell? ⟨gb222, 2, none⟩ = some (.int .i64 ((rd_T65 l2 x22_2).f0.f2)) ∧ w'.cell? ⟨gb222, 3, none⟩ = some (.int .i64 ((rd_T65 l2 x22_2).f1))) (ds := []) #[false, false, false, false, false, false, false, false, false, false, false, false, false, false, false, false, false, false, false, false, false, false, false, false, false, false, false, false, false, false, false, false] (by kernel_rfl) rfl rfl ⟨(blk_cell BK222.out 0).trans rfl, (blk_cell BK222.out 1).trans rfl, (blk_cell BK222.out 2).trans rfl, (blk_cell BK222.out 3).trans rfl⟩ (fun hHeld => ?_); refine with_tabW impl_isPartition.tab7 impl_isPartition.bits7 (fun HT_ HW_ => ?_)
           generalize w39.drew = w40 at BK219 BK222 HB hHeld ⊢
           refine pure_ (i := 0) (N := some 27) (v := ?_) (a' := ?_) #[true, false, false, false, false, false, false, false, false, false, false, false, false, false, false, false, false, false, false, false, false, false, false, false, false, false, false, false, false, false, false, false] rfl rfl (any_of HT_.out (by kernel_rfl)) (fun _ _ _ h => h) (Or.inl ⟨by rfl, ?_⟩) ?_ ?_
           rotate_left
           ·intro w'
            go_simp
            with_reducible rfl
           rotate_left
           ·simp only [Act.put, lstS, lstZ, lstC, i64_w, i32_w]
            rfl
           refine pure_ (i := 1) (N := some 28) (v := ?_) (a' := ?_) #[true, true, false, false, false, false, false, false, false, false, false, false, false, false, false, false, false, false, false, false, false, false, false, false, false, false, false, false, false, false, false, false] rfl rfl (any_of HT_.out (by kernel_rfl)) (fun _ _ _ h => h) (Or.inl ⟨by rfl, ?_⟩) ?_ ?_
           rotate_left
           ·intro w'
            go_simp
            with_reducible rfl
           rotate_left
           ·simp only [Act.put, lstS, lstZ, lstC, i64_w, i32_w]
            rfl
           refine take_ (i := 2) (N := some 29) (v := ?_) (a' := ?_) #[true, true, true, false, false, false, false, false, false, false, false, false, false, false, false, false, false, false, false, false, false, false, false, false, false, false, false, false, false, false, false, false] rfl rfl (take_ofW HT_.out HW_.out (by kernel_rfl)) (fun _ _ _ h => h) (Or.inl ⟨by rfl, ?_⟩) hHeld ?_ ?_
           rotate_left
           ·rintro w' ⟨s0, s1, s2, s3⟩
            go_simp
            with_reducible rfl
           rotate_left
           ·simp only [Act.put, lstS, lstZ, lstC, i64_w, i32_w]
            rfl
           refine one_ (i := 3) (N := some 30) #[true, true, true, true, false, false, false, false, false, false, false, false, false, false, false, false, false, false, false, false, false, false, false, false, false, false, false, false, false, false, false, false] rfl rfl (one_of HT_.out (by kernel_rfl)) (by decide) (fun K hK => ?_)
           refine goes_ Try.func71 (by kernel_rfl) rfl #[.int .i64 a0, .agg #[.int .i64 ((rd_T65 l2 x22_2).f0.f0), .int .i64 ((rd_T65 l2 x22_2).f0.f1), .int .i64 ((rd_T65 l2 x22_2).f0.f2)]] (by rfl) rfl rfl (by (try simp only [List.map_toArray, List.map_cons, List.map_nil]); first | done | rfl | (simp only [List.length_drop, List.length_take]; rfl)) ?_
           with_reducible refine (impl_IsBall.calls k2 a0 ((rd_T65 l2 x22_2).f0.f0) ((rd_T65 l2 x22_2).f0.f1) ((rd_T65 l2 x22_2).f0.f2) false _ A15.out).mono ?_
           rintro e w41 ⟨rfl, hb⟩
           refine ⟨_, rfl, ?_⟩
           have n0_ := Aside0.mk (blk_below (g := gb219) (o := .cells #[.int .i64 a1_0, .int .i64 a1_1, .int .i64 a1_2] 31 (0, 0)) (by (with_reducible repeat first | apply blk_drewN | apply blk_drew | apply blk_alloc); exact BK219.out) hb)
           have n1_ := Aside0.mk (blk_below (g := gb222) (o := .cells #[.int .i64 ((rd_T65 l2 x22_2).f0.f0), .int .i64 ((rd_T65 l2 x22_2).f0.f1), .int .i64 ((rd_T65 l2 x22_2).f0.f2), .int .i64 ((rd_T65 l2 x22_2).f1)] 65 (0, 0)) (by (with_reducible repeat first | apply blk_drewN | apply blk_drew | apply blk_alloc); exact BK222.out) hb)
           have n2_ := Aside0.mk (below_step (by repeat (first | (with_reducible first | exact HB.out | apply below_alloc | apply pw_below_drewN | apply below_drew1 | refine below_set ?_ GE219.out | refine below_set ?_ GE222.out) | exact HB.out)) hb)
           clear BK219
           clear BK222
           clear HB
           have BK219 := n0_
           have BK222 := n1_
           have HB := n2_
           clear n0_ n1_ n2_
           (try clear hb)
           (try clear hb2)
           (try clear hk)
           (try clear hi)
           refine hK.out _ _ ⟨(blk_cell BK222.out 0).trans rfl, (blk_cell BK222.out 1).trans rfl, (blk_cell BK222.out 2).trans rfl, (blk_cell BK222.out 3).trans rfl⟩ (fun hHeld => ?_)
           clear hK K
           refine norm_ (a' := ?_) ?_ ?_
           rotate_left
           ·show Act.put _ (some 30) _ = _
            simp only [Act.put, lstS, lstZ, lstC, i64_w, i32_w]
            rfl
           refine pure_ (i := 4) (N := some 31) (v := ?_) (a' := ?_) #[true, true, true, true, true, false, false, false, false, false, false, false, false, false, false, false, false, false, false, false, false, false, false, false, false, false, false, false, false, false, false, false] rfl rfl (any_of HT_.out (by kernel_rfl)) (fun _ _ _ h => h) (Or.inl ⟨by rfl, ?_⟩) ?_ ?_
           rotate_left
           ·intro w'
            go_simp
            with_reducible rfl
           rotate_left
           ·simp only [Act.put, lstS, lstZ, lstC, i64_w, i32_w]
            rfl
           refine pure_ (i := 5) (N := some 32) (v := ?_) (a' := ?_) #[true, true, true, true, true, true, false, false, false, false, false, false, false, false, false, false, false, false, false, false, false, false, false, false, false, false, false, false, false, false, false, false] rfl rfl (any_of HT_.out (by kernel_rfl)) (fun _ _ _ h => h) (Or.inl ⟨by rfl, ?_⟩) ?_ ?_
           rotate_left
           ·intro w'
            go_simp
            with_reducible rfl
           rotate_left
           ·simp only [Act.put, lstS, lstZ, lstC, i64_w, i32_w]
            rfl
           refine pure_ (i := 6) (N := some 33) (v := undef) (a' := ?_) #[true, true, true, true, true, true, true, false, false, false, false, false, false, false, false, false, false, false, false, false, false, false, false, false, false, false, false, false, false, false, false, false] rfl rfl (any_of HT_.out (by kernel_rfl)) (fun _ _ _ h => h) (Or.inr ⟨by rfl, rfl⟩) ?_ ?_
           rotate_left
           ·simp only [Act.put, lstS, lstZ, lstC, i64_w, i32_w]
            rfl
           refine pure_ (i := 7) (N := some 34) (v := undef) (a' := ?_) #[true, true, true, true, true, true, true, true, false, false, false, false, false, false, false, false, false, false, false, false, false, false, false, false, false, false, false, false, false, false, false, false] rfl rfl (any_of HT_.out (by kernel_rfl)) (fun _ _ _ h => h) (Or.inr ⟨by rfl, rfl⟩) ?_ ?_
           rotate_left
           ·simp only [Act.put, lstS, lstZ, lstC, i64_w, i32_w]
            rfl
           refine pure_ (i := 8) (N := some 35) (v := undef) (a' := ?_) #[true, true, true, true, true, true, true, true, true, false, false, false, false, false, false, false, false, false, false, false, false, false, false, false, false, false, false, false, false, false, false, false] rfl rfl (any_of HT_.out (by kernel_rfl)) (fun _ _ _ h => h) (Or.inr ⟨by rfl, rfl⟩) ?_ ?_
           rotate_left
           ·simp only [Act.put, lstS, lstZ, lstC, i64_w, i32_w]
            rfl
           refine pure_ (i := 9) (N := some 36) (v := undef) (a' := ?_) #[true, true, true, true, true, true, true, true, true, true, false, false, false, false, false, false, false, false, false, false, false, false, false, false, false, false, false, false, false, false, false, false] rfl rfl (any_of HT_.out (by kernel_rfl)) (fun _ _ _ h => h) (Or.inr ⟨by rfl, rfl⟩) ?_ ?_
           rotate_left
           ·simp only [Act.put, lstS, lstZ, lstC, i64_w, i32_w]
            rfl
           refine pure_ (i := 10) (N := some 37) (v := undef) (a' := ?_) #[true, true, true, true, true, true, true, true, true, true, true, false, false, false, false, false, false, false, false, false, false, false, false, false, false, false, false, false, false, false, false, false] rfl rfl (any_of HT_.out (by kernel_rfl)) (fun _ _ _ h => h) (Or.inr ⟨by rfl, rfl⟩) ?_ ?_
           rotate_left
           ·simp only [Act.put, lstS, lstZ, lstC, i64_w, i32_w]
            rfl
           refine pure_ (i := 11) (N := some 38) (v := undef) (a' := ?_) #[true, true, true, true, true, true, true, true, true, true, true, true, false, false, false, false, false, false, false, false, false, false, false, false, false, false, false, false, false, false, false, false] rfl rfl (any_of HT_.out (by kernel_rfl)) (fun _ _ _ h => h) (Or.inr ⟨by rfl, rfl⟩) ?_ ?_
           rotate_left
           ·simp only [Act.put, lstS, lstZ, lstC, i64_w, i32_w]
            rfl
           refine pure_ (i := 12) (N := some 39) (v := ?_) (a' := ?_) #[true, true, true, true, true, true, true, true, true, true, true, true, true, false, false, false, false, false, false, false, false, false, false, false, false, false, false, false, false, false, false, false] rfl rfl (any_of HT_.out (by kernel_rfl)) (fun _ _ _ h => h) (Or.inl ⟨by rfl, ?_⟩) ?_ ?_
           rotate_left
           ·intro w'
            go_simp
            with_reducible rfl
           rotate_left
           ·simp only [Act.put, lstS, lstZ, lstC, i64_w, i32_w]
            rfl
           refine pure_ (i := 13) (N := some 40) (v := ?_) (a' := ?_) #[true, true, true, true, true, true, true, true, true, true, true, true, true, true, false, false, false, false, false, false, false, false, false, false, false, false, false, false, false, false, false, false] rfl rfl (any_of HT_.out (by kernel_rfl)) (fun _ _ _ h => h) (Or.inl ⟨by rfl, ?_⟩) ?_ ?_
           rotate_left
           ·intro w'
            go_simp
            with_reducible rfl
           rotate_left
           ·simp only [Act.put, lstS, lstZ, lstC, i64_w, i32_w]
            rfl
           refine pure_ (i := 14) (N := some 41) (v := undef) (a' := ?_) #[true, true, true, true, true, true, true, true, true, true, true, true, true, true, true, false, false, false, false, false, false, false, false, false, false, false, false, false, false, false, false, false] rfl rfl (any_of HT_.out (by kernel_rfl)) (fun _ _ _ h => h) (Or.inr ⟨by rfl, rfl⟩) ?_ ?_
           rotate_left
           ·simp only [Act.put, lstS, lstZ, lstC, i64_w, i32_w]
            rfl
           refine pure_ (i := 15) (N := some 42) (v := undef) (a' := ?_) #[true, true, true, true, true, true, true, true, true, true, true, true, true, true, true, true, false, false, false, false, false, false, false, false, false, false, false, false, false, false, false, false] rfl rfl (any_of HT_.out (by kernel_rfl)) (fun _ _ _ h => h) (Or.inr ⟨by rfl, rfl⟩) ?_ ?_
           rotate_left
           ·simp only [Act.put, lstS, lstZ, lstC, i64_w, i32_w]
            rfl
           refine pure_ (i := 16) (N := some 43) (v := undef) (a' := ?_) #[true, true, true, true, true, true, true, true, true, true, true, true, true, true, true, true, true, false, false, false, false, false, false, false, false, false, false, false, false, false, false, false] rfl rfl (any_of HT_.out (by kernel_rfl)) (fun _ _ _ h => h) (Or.inr ⟨by rfl, rfl⟩) ?_ ?_
           rotate_left
           ·simp only [Act.put, lstS, lstZ, lstC, i64_w, i32_w]
            rfl
           refine pure_ (i := 17) (N := some 44) (v := undef) (a' := ?_) #[true, true, true, true, true, true, true, true, true, true, true, true, true, true, true, true, true, true, false, false, false, false, false, false, false, false, false, false, false, false, false, false] rfl rfl (any_of HT_.out (by kernel_rfl)) (fun _ _ _ h => h) (Or.inr ⟨by rfl, rfl⟩) ?_ ?_
           rotate_left
           ·simp only [Act.put, lstS, lstZ, lstC, i64_w, i32_w]
            rfl
           refine pure_ (i := 18) (N := some 45) (v := undef) (a' := ?_) #[true, true, true, true, true, true, true, true, true, true, true, true, true, true, true, true, true, true, true, false, false, false, false, false, false, false, false, false, false, false, false, false] rfl rfl (any_of HT_.out (by kernel_rfl)) (fun _ _ _ h => h) (Or.inr ⟨by rfl, rfl⟩) ?_ ?_
           rotate_left
           ·simp only [Act.put, lstS, lstZ, lstC, i64_w, i32_w]
            rfl
           refine pure_ (i := 19) (N := some 46) (v := undef) (a' := ?_) #[true, true, true, true, true, true, true, true, true, true, true, true, true, true, true, true, true, true, true, true, false, false, false, false, false, false, false, false, false, false, false, false] rfl rfl (any_of HT_.out (by kernel_rfl)) (fun _ _ _ h => h) (Or.inr ⟨by rfl, rfl⟩) ?_ ?_
           rotate_left
           ·simp only [Act.put, lstS, lstZ, lstC, i64_w, i32_w]
            rfl
           refine pure_ (i := 20) (N := some 47) (v := undef) (a' := ?_) #[true, true, true, true, true, true, true, true, true, true, true, true, true, true, true, true, true, true, true, true, true, false, false, false, false, false, false, false, false, false, false, false] rfl rfl (any_of HT_.out (by kernel_rfl)) (fun _ _ _ h => h) (Or.inr ⟨by rfl, rfl⟩) ?_ ?_
           rotate_left
           ·simp only [Act.put, lstS, lstZ, lstC, i64_w, i32_w]
            rfl
           refine pure_ (i := 21) (N := some 48) (v := undef) (a' := ?_) #[true, true, true, true, true, true, true, true, true, true, true, true, true, true, true, true, true, true, true, true, true, true, false, false, false, false, false, false, false, false, false, false] rfl rfl (any_of HT_.out (by kernel_rfl)) (fun _ _ _ h => h) (Or.inr ⟨by rfl, rfl⟩) ?_ ?_
           rotate_left
           ·simp only [Act.put, lstS, lstZ, lstC, i64_w, i32_w]
            rfl
           refine pure_ (i := 22) (N := some 49) (v := undef) (a' := ?_) #[true, true, true, true, true, true, true, true, true, true, true, true, true, true, true, true, true, true, true, true, true, true, true, false, false, false, false, false, false, false, false, false] rfl rfl (any_of HT_.out (by kernel_rfl)) (fun _ _ _ h => h) (Or.inr ⟨by rfl, rfl⟩) ?_ ?_
           rotate_left
           ·simp only [Act.put, lstS, lstZ, lstC, i64_w, i32_w]
            rfl
           refine pure_ (i := 23) (N := some 50) (v := undef) (a' := ?_) #[true, true, true, true, true, true, true, true, true, true, true, true, true, true, true, true, true, true, true, true, true, true, true, true, false, false, false, false, false, false, false, false] rfl rfl (any_of HT_.out (by kernel_rfl)) (fun _ _ _ h => h) (Or.inr ⟨by rfl, rfl⟩) ?_ ?_
           rotate_left
           ·simp only [Act.put, lstS, lstZ, lstC, i64_w, i32_w]
            rfl
           refine pure_ (i := 24) (N := some 51) (v := undef) (a' := ?_) #[true, true, true, true, true, true, true, true, true, true, true, true, true, true, true, true, true, true, true, true, true, true, true, true, true, false, false, false, false, false, false, false] rfl rfl (any_of HT_.out (by kernel_rfl)) (fun _ _ _ h => h) (Or.inr ⟨by rfl, rfl⟩) ?_ ?_
           rotate_left
           ·simp only [Act.put, lstS, lstZ, lstC, i64_w, i32_w]
            rfl
           refine pure_ (i := 25) (N := some 52) (v := undef) (a' := ?_) #[true, true, true, true, true, true, true, true, true, true, true, true, true, true, true, true, true, true, true, true, true, true, true, true, true, true, false, false, false, false, false, false] rfl rfl (any_of HT_.out (by kernel_rfl)) (fun _ _ _ h => h) (Or.inr ⟨by rfl, rfl⟩) ?_ ?_
           rotate_left
           ·simp only [Act.put, lstS, lstZ, lstC, i64_w, i32_w]
            rfl
           refine pure_ (i := 26) (N := some 53) (v := undef) (a' := ?_) #[true, true, true, true, true, true, true, true, true, true, true, true, true, true, true, true, true, true, true, true, true, true, true, true, true, true, true, false, false, false, false, false] rfl rfl (any_of HT_.out (by kernel_rfl)) (fun _ _ _ h => h) (Or.inr ⟨by rfl, rfl⟩) ?_ ?_
           rotate_left
           ·simp only [Act.put, lstS, lstZ, lstC, i64_w, i32_w]
            rfl
           refine pure_ (i := 27) (N := some 54) (v := undef) (a' := ?_) #[true, true, true, true, true, true, true, true, true, true, true, true, true, true, true, true, true, true, true, true, true, true, true, true, true, true, true, true, false, false, false, false] rfl rfl (any_of HT_.out (by kernel_rfl)) (fun _ _ _ h => h) (Or.inr ⟨by rfl, rfl⟩) ?_ ?_
           rotate_left
           ·simp only [Act.put, lstS, lstZ, lstC, i64_w, i32_w]
            rfl
           refine pure_ (i := 28) (N := some 55) (v := undef) (a' := ?_) #[true, true, true, true, true, true, true, true, true, true, true, true, true, true, true, true, true, true, true, true, true, true, true, true, true, true, true, true, true, false, false, false] rfl rfl (any_of HT_.out (by kernel_rfl)) (fun _ _ _ h => h) (Or.inr ⟨by rfl, rfl⟩) ?_ ?_
           rotate_left
           ·simp only [Act.put, lstS, lstZ, lstC, i64_w, i32_w]
            rfl
           refine pure_ (i := 29) (N := some 56) (v := undef) (a' := ?_) #[true, true, true, true, true, true, true, true, true, true, true, true, true, true, true, true, true, true, true, true, true, true, true, true, true, true, true, true, true, true, false, false] rfl rfl (any_of HT_.out (by kernel_rfl)) (fun _ _ _ h => h) (Or.inr ⟨by rfl, rfl⟩) ?_ ?_
           rotate_left
           ·simp only [Act.put, lstS, lstZ, lstC, i64_w, i32_w]
            rfl
           refine pure_ (i := 30) (N := some 57) (v := undef) (a' := ?_) #[true, true, true, true, true, true, true, true, true, true, true, true, true, true, true, true, true, true, true, true, true, true, true, true, true, true, true, true, true, true, true, false] rfl rfl (any_of HT_.out (by kernel_rfl)) (fun _ _ _ h => h) (Or.inr ⟨by rfl, rfl⟩) ?_ ?_
           rotate_left
           ·simp only [Act.put, lstS, lstZ, lstC, i64_w, i32_w]
            rfl
           refine pure_ (i := 31) (N := some 58) (v := ?_) (a' := ?_) #[true, true, true, true, true, true, true, true, true, true, true, true, true, true, true, true, true, true, true, true, true, true, true, true, true, true, true, true, true, true, true, true] rfl rfl (any_of HT_.out (by kernel_rfl)) (fun _ _ _ h => h) (Or.inl ⟨by rfl, ?_⟩) ?_ ?_
           rotate_left
           ·intro w'
            go_simp
            with_reducible rfl
           rotate_left
           ·simp only [Act.put, lstS, lstZ, lstC, i64_w, i32_w]
            rfl
           refine done_ (done_of HT_.out (by kernel_rfl)) ?_
           try go_wp2
           go_meet
           case rel => exact ⟨_, (true), (by first | rfl | (simp; done) | (simp [*]; done) | (simp [wrap64]; done)), H', ⟨by have := HJ3.out; have := HK2.out; first | omega | exact Nat.le_refl _⟩, ⟨by (with_reducible repeat first | apply blk_drewN | apply blk_drew | apply blk_alloc); exact BK219.out⟩, ⟨by (with_reducible repeat first | apply blk_drewN | apply blk_drew | apply blk_alloc); exact BK222.out⟩, ⟨by repeat (first | (with_reducible first | exact HB.out | apply below_alloc | apply pw_below_drewN | apply below_drew1 | refine below_set ?_ GE219.out | refine below_set ?_ GE222.out) | exact HB.out)⟩⟩
         case rest =>
          clear HC11
          try clear c1
          try clear p2
          try clear c7
          try clear c8
          try clear c16
          try clear c18
          obtain ⟨kq, x58_10, rfl, HA, HJ10, BK219, BK222, HB⟩ := hcut
          cases kq with
          | zero => exact absurd HA.out (by simp [impl_isPartition.j2])
          | succ kj10 =>
           have H := HA.out
           clear HA
           simp only [impl_isPartition.j2] at H
           by_cases c42 : x58_10 = true
           ·subst c42
            have H1 : (some false) = some r := by rw [if_pos rfl] at H; exact H
            clear H
            have H := H1
            clear H1
            obtain rfl := Option.some.inj H
            go_wp2
            go_ret
            exact ⟨by first | rfl | (simp [errW_none, errW_some] <;> rfl) | (simp [*, errW_none, errW_some] <;> rfl), by repeat (first | (with_reducible first | exact HB.out | apply below_alloc | apply pw_below_drewN | apply below_drew1 | refine below_set ?_ GE219.out | refine below_set ?_ GE222.out) | exact HB.out)⟩
           ·replace c42 := Bool.eq_false_iff.mpr c42
            subst c42
            have H1 : (if 0 ≤ x22_2 then (if x22_2 ≤ (l2.length : Int) then ((some (l2.take (x22_2 : Int).toNat : List (S65))).bind fun y228 => (impl_isPartition.l1 kj10 a0 l2 x7_2 l2 (l2.length : Int) x22_2 y228 (y228.length : Int) 0 a1_0 a1_1 a1_2 ((rd_T65 l2 x22_2).f0.f0) ((rd_T65 l2 x22_2).f0.f1) ((rd_T65 l2 x22_2).f0.f2) ((rd_T65 l2 x22_2).f1))) else (none)) else (none)) = some r := by rw [if_neg (show ¬ (false = true) by decide)] at H; exact H
            clear H
            have H := H1
            clear H1
            by_cases c43 : 0 ≤ x22_2
            ·rw [if_pos c43] at H
             have c43b0 := eq_true c43
             have c43b1 : decide (0 ≤ x22_2) = true := decide_eq_true c43
             clear c43
             by_cases c44 : x22_2 ≤ (l2.length : Int)
             ·rw [if_pos c44] at H
              have c44b0 := eq_true c44
              have c44b1 : decide (x22_2 ≤ (l2.length : Int)) = true := decide_eq_true c44
              clear c44
              obtain ⟨y228, hy228⟩ : ∃ y_ : List (S65), y_ = (l2.take (x22_2 : Int).toNat) := ⟨_, rfl⟩
              replace H : (impl_isPartition.l1 kj10 a0 l2 x7_2 l2 (l2.length : Int) x22_2 y228 (y228.length : Int) 0 a1_0 a1_1 a1_2 ((rd_T65 l2 x22_2).f0.f0) ((rd_T65 l2 x22_2).f0.f1) ((rd_T65 l2 x22_2).f0.f2) ((rd_T65 l2 x22_2).f1)) = some r := by first | (rw [hy228]; with_reducible exact H) | (have H2_ := (Option.bind_some _ _).symm.trans H; rw [hy228]; with_reducible exact H2_) | (have H2_ := (Option.bind_some _ _).symm.trans H; with_reducible exact H2_) | with_reducible exact H | (rw [hy228]; exact H) | exact H
              have Ny228 := Aside0.mk hy228
              clear hy228
              have H' := Aside0.mk H
              clear H
              have q45 : (x22_2 : Int) ≤ ((l2.length : Int) : Int) := of_decide_eq_true (by first | (with_reducible assumption) | assumption)
              obtain ⟨i045, hi045, _, hsz45, _⟩ := info_parts info65
              have hroom45 : l2.length ≤ c2 := HC2.out
              have hC45 : Kd.C k65 _ (some ad221) l2.length l2 := HR2.out
              have hcut45 := cut_to (P := Try.prog) 32 65 .i64 Try.underlying32 hi045 (some ad221) l2.length c2 x22_2 (of_decide_eq_true (by first | (with_reducible assumption) | assumption)) q45 hroom45
              have hr45 := Kd.C_take (m := (x22_2 : Int).toNat) hC45 (by omega)
              have hy45 : y228.length = (x22_2 : Int).toNat := (by rw [Ny228.out, List.length_take]; omega)
              rw [← Ny228.out] at hr45
              rw [← hy45] at hcut45
              have HR231 := Aside0.mk hr45
              have HC231 := Aside0.mk (show y228.length ≤ c2 from by omega)
              clear hr45 hC45 hroom45 hi045 hsz45
              have KY45 := Aside0.mk hy45
              clear hy45
              replace q45 := eq_true q45
              go_wp2
              go_loopg [63] kj10 (fun kq v63 w' => ∃ (x63_4 : Int), v63 = .int .i64 x63_4 ∧ Aside0 (impl_isPartition.l1 kq a0 l2 x7_2 l2 (l2.length : Int) x22_2 y228 (y228.length : Int) x63_4 a1_0 a1_1 a1_2 ((rd_T65 l2 x22_2).f0.f0) ((rd_T65 l2 x22_2).f0.f1) ((rd_T65 l2 x22_2).f0.f2) ((rd_T65 l2 x22_2).f1) = some r) ∧ Aside0 (kq ≤ kj10) ∧ Aside0 (w'.heap[gb219]? = some (.cells #[.int .i64 a1_0, .int .i64 a1_1, .int .i64 a1_2] 31 (0, 0))) ∧ Aside0 (w'.heap[gb222]? = some (.cells #[.int .i64 ((rd_T65 l2 x22_2).f0.f0), .int .i64 ((rd_T65 l2 x22_2).f0.f1), .int .i64 ((rd_T65 l2 x22_2).f0.f2), .int .i64 ((rd_T65 l2 x22_2).f1)] 65 (0, 0))) ∧ Aside0 (Below w.heap.size w w'))
              case atStart => exact ⟨(0), (by first | rfl | (simp; done) | (simp [*]; done) | (simp [wrap64]; done)), H', ⟨Nat.le_refl _⟩, ⟨by (with_reducible repeat first | apply blk_drewN | apply blk_drew | apply blk_alloc); exact BK219.out⟩, ⟨by (with_reducible repeat first | apply blk_drewN | apply blk_drew | apply blk_alloc); exact BK222.out⟩, ⟨by repeat (first | (with_reducible first | exact HB.out | apply below_alloc | apply pw_below_drewN | apply below_drew1 | refine below_set ?_ GE219.out | refine below_set ?_ GE222.out) | exact HB.out)⟩⟩
              case round =>
               clear H'
               try clear c1
               try clear c2
               try clear p2
               try clear c4
               try clear q4
               try clear c7
               try clear c8
               try clear c16
               try clear c18
               try clear c42
               try clear c43
               try clear c43b0
               try clear c43b1
               try clear c44
               try clear c44b0
               try clear c44b1
               try clear q45
               try clear p2
               try clear q45
               obtain ⟨x63_4, rfl, HA, HK4, BK219, BK222, HB⟩ := hrel
               cases gk with
               | zero => exact absurd HA.out (by simp [impl_isPartition.l1])
               | succ k4 =>
                have H := HA.out
                clear HA
                simp only [impl_isPartition.l1] at H
                by_cases c46 : x63_4 < (y228.length : Int)
                ·rw [if_pos c46] at H
                 have c46b0 : decide (x63_4 < (y228.length : Int)) = true := decide_eq_true c46
                 clear c46
                 by_cases c47 : 0 ≤ x63_4
                 ·rw [if_pos c47] at H
                  have c47b0 : decide (0 ≤ x63_4) = true := decide_eq_true c47
                  clear c47
                  by_cases c48 : x63_4 < (y228.length : Int)
                  ·rw [if_pos c48] at H
                   have c48b0 : decide (x63_4 < (y228.length : Int)) = true := decide_eq_true c48
                   clear c48
                   replace H := Option.bind_eq_some_iff.mp H
                   obtain ⟨t234, A490, H⟩ := H
                   replace H : (if t234 = true then (impl_isPartition.l1 k4 a0 l2 x7_2 l2 (l2.length : Int) x22_2 y228 (y228.length : Int) (wrap64 (x63_4 + 1)) a1_0 a1_1 a1_2 ((rd_T65 l2 x22_2).f0.f0) ((rd_T65 l2 x22_2).f0.f1) ((rd_T65 l2 x22_2).f0.f2) ((rd_T65 l2 x22_2).f1)) else (some false)) = some r := H
                   have A49 := Aside0.mk A490
                   clear A490
                   by_cases c50 : t234 = true
                   ·subst c50
                    have H1 : (impl_isPartition.l1 k4 a0 l2 x7_2 l2 (l2.length : Int) x22_2 y228 (y228.length : Int) (wrap64 (x63_4 + 1)) a1_0 a1_1 a1_2 ((rd_T65 l2 x22_2).f0.f0) ((rd_T65 l2 x22_2).f0.f1) ((rd_T65 l2 x22_2).f0.f2) ((rd_T65 l2 x22_2).f1)) = some r := by rw [if_pos rfl] at H; exact H
                    clear H
                    have H := H1
                    clear H1
                    have H' := Aside0.mk H
                    clear H
                    have p232 : 0 ≤ (x63_4 : Int) := of_decide_eq_true (by first | (with_reducible assumption) | assumption)
                    have q232 : x63_4 < (y228.length : Int) := of_decide_eq_true (by first | (with_reducible assumption) | assumption)
                    obtain ⟨ad232, e232, hx232_0, hx232_1, hx232_2, hx232_3⟩ := at_T65 HR231.out x63_4 p232 q232
                    obtain rfl : ad221 = ad232 := (by injection e232)
                    replace hx232_0 := clTr HB.out hx232_0
                    replace hx232_1 := clTr HB.out hx232_1
                    replace hx232_2 := clTr HB.out hx232_2
                    replace hx232_3 := clTr HB.out hx232_3
                    replace p232 := eq_true p232
                    replace q232 := eq_true q232
                    go_wp2_with (first | ((with_reducible refine gate_dst (N := 11) rfl ?_); (try (refine gate_guard (by rfl) ?_; dsimp only)); refine box_event ?hg (N := 11) ?hd (cs := #[.int .i64 0, .int .i64 0, .int .i64 0, .int .i64 0]) (t := 65) ?hr ?_; (case hd => rfl); (case hg => rfl); (case hr => first | (go_simp; done) | (go_simp; rfl)); intro gb233 hg w51 hbox hb; have n0_ := Aside0.mk (blk_below (g := gb219) (o := .cells #[.int .i64 a1_0, .int .i64 a1_1, .int .i64 a1_2] 31 (0, 0)) (by (with_reducible repeat first | apply blk_drewN | apply blk_drew | apply blk_alloc); exact BK219.out) hb); have n1_ := Aside0.mk (blk_below (g := gb222) (o := .cells #[.int .i64 ((rd_T65 l2 x22_2).f0.f0), .int .i64 ((rd_T65 l2 x22_2).f0.f1), .int .i64 ((rd_T65 l2 x22_2).f0.f2), .int .i64 ((rd_T65 l2 x22_2).f1)] 65 (0, 0)) (by (with_reducible repeat first | apply blk_drewN | apply blk_drew | apply blk_alloc); exact BK222.out) hb); have n2_ := Aside0.mk (below_step (by repeat (first | (with_reducible first | exact HB.out | apply below_alloc | apply pw_below_drewN | apply below_drew1 | refine below_set ?_ GE219.out | refine below_set ?_ GE222.out) | exact HB.out)) hb); have n3_ := Aside0.mk (hbox); have n4_ := Aside0.mk ((by rw [hg]; exact (below_size (by repeat (first | (with_reducible first | exact HB.out | apply below_alloc | apply pw_below_drewN | apply below_drew1 | refine below_set ?_ GE219.out | refine below_set ?_ GE222.out) | exact HB.out))) : w.heap.size ≤ gb233)); have n5_ := Aside0.mk ((by rw [hg]; exact (below_size (by repeat (first | (with_reducible first | exact HB.out | apply below_alloc | apply pw_below_drewN | apply below_drew1 | refine below_set ?_ GE219.out | refine below_set ?_ GE222.out) | exact HB.out))) : w.heap.size ≤ gb233)); have n6_ := Aside0.mk ((by rw [hg]; exact Nat.ne_of_lt (blk_lt (g := gb219) (o := .cells #[.int .i64 a1_0, .int .i64 a1_1, .int .i64 a1_2] 31 (0, 0)) (by (with_reducible repeat first | apply blk_drewN | apply blk_drew | apply blk_alloc); exact BK219.out)) : gb219 ≠ gb233)); have n7_ := Aside0.mk ((by rw [hg]; exact Nat.ne_of_gt (blk_lt (g := gb219) (o := .cells #[.int .i64 a1_0, .int .i64 a1_1, .int .i64 a1_2] 31 (0, 0)) (by (with_reducible repeat first | apply blk_drewN | apply blk_drew | apply blk_alloc); exact BK219.out)) : gb233 ≠ gb219)); have n8_ := Aside0.mk ((by rw [hg]; exact Nat.ne_of_lt (blk_lt (g := gb222) (o := .cells #[.int .i64 ((rd_T65 l2 x22_2).f0.f0), .int .i64 ((rd_T65 l2 x22_2).f0.f1), .int .i64 ((rd_T65 l2 x22_2).f0.f2), .int .i64 ((rd_T65 l2 x22_2).f1)] 65 (0, 0)) (by (with_reducible repeat first | apply blk_drewN | apply blk_drew | apply blk_alloc); exact BK222.out)) : gb222 ≠ gb233)); have n9_ := Aside0.mk ((by rw [hg]; exact Nat.ne_of_gt (blk_lt (g := gb222) (o := .cells #[.int .i64 ((rd_T65 l2 x22_2).f0.f0), .int .i64 ((rd_T65 l2 x22_2).f0.f1), .int .i64 ((rd_T65 l2 x22_2).f0.f2), .int .i64 ((rd_T65 l2 x22_2).f1)] 65 (0, 0)) (by (with_reducible repeat first | apply blk_drewN | apply blk_drew | apply blk_alloc); exact BK222.out)) : gb233 ≠ gb222)); clear BK219; clear BK222; clear HB; have BK219 := n0_; have BK222 := n1_; have HB := n2_; have BK233 := n3_; have GW233 := n4_; have GE233 := n5_; have NB219_233 := n6_; have NB233_219 := n7_; have NB222_233 := n8_; have NB233_222 := n9_; clear n0_ n1_ n2_ n3_ n4_ n5_ n6_ n7_ n8_ n9_; clear hb hbox hg; have hnb52 := NB233_219.out; have hnc52 := NB219_233.out; have hnb53 := NB233_222.out; have hnc53 := NB222_233.out; have hcz54_0 : w51.cell? ⟨gb233, 0, none⟩ = some (.int .i64 0) := (blk_cell BK233.out 0).trans rfl; have hcz54_1 : w51.cell? ⟨gb233, 1, none⟩ = some (.int .i64 0) := (blk_cell BK233.out 1).trans rfl; have hcz54_2 : w51.cell? ⟨gb233, 2, none⟩ = some (.int .i64 0) := (blk_cell BK233.out 2).trans rfl; have hcz54_3 : w51.cell? ⟨gb233, 3, none⟩ = some (.int .i64 0) := (blk_cell BK233.out 3).trans rfl; have hfz54_0 := blk_frozen BK233.out 0; have hfz54_1 := blk_frozen BK233.out 1; have hfz54_2 := blk_frozen BK233.out 2; have hfz54_3 := blk_frozen BK233.out 3; have hnb55 := NB222_219.out; have hnc55 := NB219_222.out; have hcz56_0 : w51.cell? ⟨gb222, 0, none⟩ = some (.int .i64 ((rd_T65 l2 x22_2).f0.f0)) := (blk_cell BK222.out 0).trans rfl; have hcz56_1 : w51.cell? ⟨gb222, 1, none⟩ = some (.int .i64 ((rd_T65 l2 x22_2).f0.f1)) := (blk_cell BK222.out 1).trans rfl; have hcz56_2 : w51.cell? ⟨gb222, 2, none⟩ = some (.int .i64 ((rd_T65 l2 x22_2).f0.f2)) := (blk_cell BK222.out 2).trans rfl; have hcz56_3 : w51.cell? ⟨gb222, 3, none⟩ = some (.int .i64 ((rd_T65 l2 x22_2).f1)) := (blk_cell BK222.out 3).trans rfl; have hfz56_0 := blk_frozen BK222.out 0; have hfz56_1 := blk_frozen BK222.out 1; have hfz56_2 := blk_frozen BK222.out 2; have hfz56_3 := blk_frozen BK222.out 3) | ((with_reducible refine gate_callee (f := 96) rfl ?_); refine goesL_ (some 72) rfl rfl Try.func96 (by kernel_rfl) rfl #[.int .i64 a0, .agg #[.int .i64 ((rd_T65 l2 x22_2).f0.f0), .int .i64 ((rd_T65 l2 x22_2).f0.f1), .int .i64 ((rd_T65 l2 x22_2).f0.f2)], .agg #[.int .i64 ((rd_T65 y228 x63_4).f0.f0), .int .i64 ((rd_T65 y228 x63_4).f0.f1), .int .i64 ((rd_T65 y228 x63_4).f0.f2)]] rfl (by (try simp only [List.map_toArray, List.map_cons, List.map_nil]); first | done | rfl | (simp only [List.length_drop, List.length_take]; rfl)) ?_; (with_reducible refine (impl_apart.calls k4 a0 ((rd_T65 l2 x22_2).f0.f0) ((rd_T65 l2 x22_2).f0.f1) ((rd_T65 l2 x22_2).f0.f2) ((rd_T65 y228 x63_4).f0.f0) ((rd_T65 y228 x63_4).f0.f1) ((rd_T65 y228 x63_4).f0.f2) true _ A49.out).mono ?_); rintro e w57 ⟨rfl, hb⟩; refine ⟨_, rfl, ?_⟩; have n0_ := Aside0.mk (blk_below (g := gb219) (o := .cells #[.int .i64 a1_0, .int .i64 a1_1, .int .i64 a1_2] 31 (0, 0)) (by (with_reducible repeat first | apply blk_drewN | apply blk_drew | apply blk_alloc); refine blk_far ?_ NB219_233.out _; (with_reducible repeat first | apply blk_drewN | apply blk_drew | apply blk_alloc); refine blk_far ?_ NB219_233.out _; (with_reducible repeat first | apply blk_drewN | apply blk_drew | apply blk_alloc); refine blk_far ?_ NB219_233.out _; (with_reducible repeat first | apply blk_drewN | apply blk_drew | apply blk_alloc); refine blk_far ?_ NB219_233.out _; (with_reducible repeat first | apply blk_drewN | apply blk_drew | apply blk_alloc); exact BK219.out) hb); have n1_ := Aside0.mk (blk_below (g := gb222) (o := .cells #[.int .i64 ((rd_T65 l2 x22_2).f0.f0), .int .i64 ((rd_T65 l2 x22_2).f0.f1), .int .i64 ((rd_T65 l2 x22_2).f0.f2), .int .i64 ((rd_T65 l2 x22_2).f1)] 65 (0, 0)) (by (with_reducible repeat first | apply blk_drewN | apply blk_drew | apply blk_alloc); refine blk_far ?_ NB222_233.out _; (with_reducible repeat first | apply blk_drewN | apply blk_drew | apply blk_alloc); refine blk_far ?_ NB222_233.out _; (with_reducible repeat first | apply blk_drewN | apply blk_drew | apply blk_alloc); refine blk_far ?_ NB222_233.out _; (with_reducible repeat first | apply blk_drewN | apply blk_drew | apply blk_alloc); refine blk_far ?_ NB222_233.out _; (with_reducible repeat first | apply blk_drewN | apply blk_drew | apply blk_alloc); exact BK222.out) hb); have n2_ := Aside0.mk (blk_below (g := gb233) (o := .cells #[.int .i64 ((rd_T65 y228 x63_4).f0.f0), .int .i64 ((rd_T65 y228 x63_4).f0.f1), .int .i64 ((rd_T65 y228 x63_4).f0.f2), .int .i64 ((rd_T65 y228 x63_4).f1)] 65 (0, 0)) (by (with_reducible repeat first | apply blk_drewN | apply blk_drew | apply blk_alloc); refine blk_put (cs := #[.int .i64 ((rd_T65 y228 x63_4).f0.f0), .int .i64 ((rd_T65 y228 x63_4).f0.f1), .int .i64 ((rd_T65 y228 x63_4).f0.f2), .int .i64 0]) ?_ 3 _ rfl; (with_reducible repeat first | apply blk_drewN | apply blk_drew | apply blk_alloc); refine blk_put (cs := #[.int .i64 ((rd_T65 y228 x63_4).f0.f0), .int .i64 ((rd_T65 y228 x63_4).f0.f1), .int .i64 0, .int .i64 0]) ?_ 2 _ rfl; (with_reducible repeat first | apply blk_drewN | apply blk_drew | apply blk_alloc); refine blk_put (cs := #[.int .i64 ((rd_T65 y228 x63_4).f0.f0), .int .i64 0, .int .i64 0, .int .i64 0]) ?_ 1 _ rfl; (with_reducible repeat first | apply blk_drewN | apply blk_drew | apply blk_alloc); refine blk_put (cs := #[.int .i64 0, .int .i64 0, .int .i64 0, .int .i64 0]) ?_ 0 _ rfl; (with_reducible repeat first | apply blk_drewN | apply blk_drew | apply blk_alloc); exact BK233.out) hb); have n3_ := Aside0.mk (below_step (by repeat (first | (with_reducible first | exact HB.out | apply below_alloc | apply pw_below_drewN | apply below_drew1 | refine below_set ?_ GE219.out | refine below_set ?_ GE222.out | refine below_set ?_ GE233.out) | exact HB.out)) hb); clear BK219; clear BK222; clear BK233; clear HB; have BK219 := n0_; have BK222 := n1_; have BK233 := n2_; have HB := n3_; clear n0_ n1_ n2_ n3_; (try clear hb); (try clear hb2); (try clear hk); (try clear hi)))
                    go_roundg k4
                    case measure => have := HJ3.out; have := HK2.out; have := HJ10.out; have := HK4.out; omega
                    case rel => exact ⟨(wrap64 (x63_4 + 1)), (by first | rfl | (simp; done) | (simp [*]; done) | (simp [wrap64]; done)), H', ⟨by have := HJ3.out; have := HK2.out; have := HJ10.out; have := HK4.out; omega⟩, ⟨by (with_reducible repeat first | apply blk_drewN | apply blk_drew | apply blk_alloc); exact BK219.out⟩, ⟨by (with_reducible repeat first | apply blk_drewN | apply blk_drew | apply blk_alloc); exact BK222.out⟩, ⟨by repeat (first | (with_reducible first | exact HB.out | apply below_alloc | apply pw_below_drewN | apply below_drew1 | refine below_set ?_ GE219.out | refine below_set ?_ GE222.out | refine below_set ?_ GE233.out) | exact HB.out)⟩⟩
                   ·replace c50 := Bool.eq_false_iff.mpr c50
                    subst c50
                    have H1 : (some false) = some r := by rw [if_neg (show ¬ (false = true) by decide)] at H; exact H
                    clear H
                    have H := H1
                    clear H1
                    obtain rfl := Option.some.inj H
                    have p232 : 0 ≤ (x63_4 : Int) := of_decide_eq_true (by first | (with_reducible assumption) | assumption)
                    have q232 : x63_4 < (y228.length : Int) := of_decide_eq_true (by first | (with_reducible assumption) | assumption)
                    obtain ⟨ad232, e232, hx232_0, hx232_1, hx232_2, hx232_3⟩ := at_T65 HR231.out x63_4 p232 q232
                    obtain rfl : ad221 = ad232 := (by injection e232)
                    replace hx232_0 := clTr HB.out hx232_0
                    replace hx232_1 := clTr HB.out hx232_1
                    replace hx232_2 := clTr HB.out hx232_2
                    replace hx232_3 := clTr HB.out hx232_3
                    replace p232 := eq_true p232
                    replace q232 := eq_true q232
                    go_wp2_with (first | ((with_reducible refine gate_dst (N := 11) rfl ?_); (try (refine gate_guard (by rfl) ?_; dsimp only)); refine box_event ?hg (N := 11) ?hd (cs := #[.int .i64 0, .int .i64 0, .int .i64 0, .int .i64 0]) (t := 65) ?hr ?_; (case hd => rfl); (case hg => rfl); (case hr => first | (go_simp; done) | (go_simp; rfl)); intro gb233 hg w58 hbox hb; have n0_ := Aside0.mk (blk_below (g := gb219) (o := .cells #[.int .i64 a1_0, .int .i64 a1_1, .int .i64 a1_2] 31 (0, 0)) (by (with_reducible repeat first | apply blk_drewN | apply blk_drew | apply blk_alloc); exact BK219.out) hb); have n1_ := Aside0.mk (blk_below (g := gb222) (o := .cells #[.int .i64 ((rd_T65 l2 x22_2).f0.f0), .int .i64 ((rd_T65 l2 x22_2).f0.f1), .int .i64 ((rd_T65 l2 x22_2).f0.f2), .int .i64 ((rd_T65 l2 x22_2).f1)] 65 (0, 0)) (by (with_reducible repeat first | apply blk_drewN | apply blk_drew | apply blk_alloc); exact BK222.out) hb); have n2_ := Aside0.mk (below_step (by repeat (first | (with_reducible first | exact HB.out | apply below_alloc | apply pw_below_drewN | apply below_drew1 | refine below_set ?_ GE219.out | refine below_set ?_ GE222.out) | exact HB.out)) hb); have n3_ := Aside0.mk (hbox); have n4_ := Aside0.mk ((by rw [hg]; exact (below_size (by repeat (first | (with_reducible first | exact HB.out | apply below_alloc | apply pw_below_drewN | apply below_drew1 | refine below_set ?_ GE219.out | refine below_set ?_ GE222.out) | exact HB.out))) : w.heap.size ≤ gb233)); have n5_ := Aside0.mk ((by rw [hg]; exact (below_size (by repeat (first | (with_reducible first | exact HB.out | apply below_alloc | apply pw_below_drewN | apply below_drew1 | refine below_set ?_ GE219.out | refine below_set ?_ GE222.out) | exact HB.out))) : w.heap.size ≤ gb233)); have n6_ := Aside0.mk ((by rw [hg]; exact Nat.ne_of_lt (blk_lt (g := gb219) (o := .cells #[.int .i64 a1_0, .int .i64 a1_1, .int .i64 a1_2] 31 (0, 0)) (by (with_reducible repeat first | apply blk_drewN | apply blk_drew | apply blk_alloc); exact BK219.out)) : gb219 ≠ gb233)); have n7_ := Aside0.mk ((by rw [hg]; exact Nat.ne_of_gt (blk_lt (g := gb219) (o := .cells #[.int .i64 a1_0, .int .i64 a1_1, .int .i64 a1_2] 31 (0, 0)) (by (with_reducible repeat first | apply blk_drewN | apply blk_drew | apply blk_alloc); exact BK219.out)) : gb233 ≠ gb219)); have n8_ := Aside0.mk ((by rw [hg]; exact Nat.ne_of_lt (blk_lt (g := gb222) (o := .cells #[.int .i64 ((rd_T65 l2 x22_2).f0.f0), .int .i64 ((rd_T65 l2 x22_2).f0.f1), .int .i64 ((rd_T65 l2 x22_2).f0.f2), .int .i64 ((rd_T65 l2 x22_2).f1)] 65 (0, 0)) (by (with_reducible repeat first | apply blk_drewN | apply blk_drew | apply blk_alloc); exact BK222.out)) : gb222 ≠ gb233)); have n9_ := Aside0.mk ((by rw [hg]; exact Nat.ne_of_gt (blk_lt (g := gb222) (o := .cells #[.int .i64 ((rd_T65 l2 x22_2).f0.f0), .int .i64 ((rd_T65 l2 x22_2).f0.f1), .int .i64 ((rd_T65 l2 x22_2).f0.f2), .int .i64 ((rd_T65 l2 x22_2).f1)] 65 (0, 0)) (by (with_reducible repeat first | apply blk_drewN | apply blk_drew | apply blk_alloc); exact BK222.out)) : gb233 ≠ gb222)); clear BK219; clear BK222; clear HB; have BK219 := n0_; have BK222 := n1_; have HB := n2_; have BK233 := n3_; have GW233 := n4_; have GE233 := n5_; have NB219_233 := n6_; have NB233_219 := n7_; have NB222_233 := n8_; have NB233_222 := n9_; clear n0_ n1_ n2_ n3_ n4_ n5_ n6_ n7_ n8_ n9_; clear hb hbox hg; have hnb59 := NB233_219.out; have hnc59 := NB219_233.out; have hnb60 := NB233_222.out; have hnc60 := NB222_233.out; have hcz61_0 : w58.cell? ⟨gb233, 0, none⟩ = some (.int .i64 0) := (blk_cell BK233.out 0).trans rfl; have hcz61_1 : w58.cell? ⟨gb233, 1, none⟩ = some (.int .i64 0) := (blk_cell BK233.out 1).trans rfl; have hcz61_2 : w58.cell? ⟨gb233, 2, none⟩ = some (.int .i64 0) := (blk_cell BK233.out 2).trans rfl; have hcz61_3 : w58.cell? ⟨gb233, 3, none⟩ = some (.int .i64 0) := (blk_cell BK233.out 3).trans rfl; have hfz61_0 := blk_frozen BK233.out 0; have hfz61_1 := blk_frozen BK233.out 1; have hfz61_2 := blk_frozen BK233.out 2; have hfz61_3 := blk_frozen BK233.out 3; have hnb62 := NB222_219.out; have hnc62 := NB219_222.out; have hcz63_0 : w58.cell? ⟨gb222, 0, none⟩ = some (.int .i64 ((rd_T65 l2 x22_2).f0.f0)) := (blk_cell BK222.out 0).trans rfl; have hcz63_1 : w58.cell? ⟨gb222, 1, none⟩ = some (.int .i64 ((rd_T65 l2 x22_2).f0.f1)) := (blk_cell BK222.out 1).trans rfl; have hcz63_2 : w58.cell? ⟨gb222, 2, none⟩ = some (.int .i64 ((rd_T65 l2 x22_2).f0.f2)) := (blk_cell BK222.out 2).trans rfl; have hcz63_3 : w58.cell? ⟨gb222, 3, none⟩ = some (.int .i64 ((rd_T65 l2 x22_2).f1)) := (blk_cell BK222.out 3).trans rfl; have hfz63_0 := blk_frozen BK222.out 0; have hfz63_1 := blk_frozen BK222.out 1; have hfz63_2 := blk_frozen BK222.out 2; have hfz63_3 := blk_frozen BK222.out 3) | ((with_reducible refine gate_callee (f := 96) rfl ?_); refine goesL_ (some 72) rfl rfl Try.func96 (by kernel_rfl) rfl #[.int .i64 a0, .agg #[.int .i64 ((rd_T65 l2 x22_2).f0.f0), .int .i64 ((rd_T65 l2 x22_2).f0.f1), .int .i64 ((rd_T65 l2 x22_2).f0.f2)], .agg #[.int .i64 ((rd_T65 y228 x63_4).f0.f0), .int .i64 ((rd_T65 y228 x63_4).f0.f1), .int .i64 ((rd_T65 y228 x63_4).f0.f2)]] rfl (by (try simp only [List.map_toArray, List.map_cons, List.map_nil]); first | done | rfl | (simp only [List.length_drop, List.length_take]; rfl)) ?_; (with_reducible refine (impl_apart.calls k4 a0 ((rd_T65 l2 x22_2).f0.f0) ((rd_T65 l2 x22_2).f0.f1) ((rd_T65 l2 x22_2).f0.f2) ((rd_T65 y228 x63_4).f0.f0) ((rd_T65 y228 x63_4).f0.f1) ((rd_T65 y228 x63_4).f0.f2) false _ A49.out).mono ?_); rintro e w64 ⟨rfl, hb⟩; refine ⟨_, rfl, ?_⟩; have n0_ := Aside0.mk (blk_below (g := gb219) (o := .cells #[.int .i64 a1_0, .int .i64 a1_1, .int .i64 a1_2] 31 (0, 0)) (by (with_reducible repeat first | apply blk_drewN | apply blk_drew | apply blk_alloc); refine blk_far ?_ NB219_233.out _; (with_reducible repeat first | apply blk_drewN | apply blk_drew | apply blk_alloc); refine blk_far ?_ NB219_233.out _; (with_reducible repeat first | apply blk_drewN | apply blk_drew | apply blk_alloc); refine blk_far ?_ NB219_233.out _; (with_reducible repeat first | apply blk_drewN | apply blk_drew | apply blk_alloc); refine blk_far ?_ NB219_233.out _; (with_reducible repeat first | apply blk_drewN | apply blk_drew | apply blk_alloc); exact BK219.out) hb); have n1_ := Aside0.mk (blk_below (g := gb222) (o := .cells #[.int .i64 ((rd_T65 l2 x22_2).f0.f0), .int .i64 ((rd_T65 l2 x22_2).f0.f1), .int .i64 ((rd_T65 l2 x22_2).f0.f2), .int .i64 ((rd_T65 l2 x22_2).f1)] 65 (0, 0)) (by (with_reducible repeat first | apply blk_drewN | apply blk_drew | apply blk_alloc); refine blk_far ?_ NB222_233.out _; (with_reducible repeat first | apply blk_drewN | apply blk_drew | apply blk_alloc); refine blk_far ?_ NB222_233.out _; (with_reducible repeat first | apply blk_drewN | apply blk_drew | apply blk_alloc); refine blk_far ?_ NB222_233.out _; (with_reducible repeat first | apply blk_drewN | apply blk_drew | apply blk_alloc); refine blk_far ?_ NB222_233.out _; (with_reducible repeat first | apply blk_drewN | apply blk_drew | apply blk_alloc); exact BK222.out) hb); have n2_ := Aside0.mk (blk_below (g := gb233) (o := .cells #[.int .i64 ((rd_T65 y228 x63_4).f0.f0), .int .i64 ((rd_T65 y228 x63_4).f0.f1), .int .i64 ((rd_T65 y228 x63_4).f0.f2), .int .i64 ((rd_T65 y228 x63_4).f1)] 65 (0, 0)) (by (with_reducible repeat first | apply blk_drewN | apply blk_drew | apply blk_alloc); refine blk_put (cs := #[.int .i64 ((rd_T65 y228 x63_4).f0.f0), .int .i64 ((rd_T65 y228 x63_4).f0.f1), .int .i64 ((rd_T65 y228 x63_4).f0.f2), .int .i64 0]) ?_ 3 _ rfl; (with_reducible repeat first | apply blk_drewN | apply blk_drew | apply blk_alloc); refine blk_put (cs := #[.int .i64 ((rd_T65 y228 x63_4).f0.f0), .int .i64 ((rd_T65 y228 x63_4).f0.f1), .int .i64 0, .int .i64 0]) ?_ 2 _ rfl; (with_reducible repeat first | apply blk_drewN | apply blk_drew | apply blk_alloc); refine blk_put (cs := #[.int .i64 ((rd_T65 y228 x63_4).f0.f0), .int .i64 0, .int .i64 0, .int .i64 0]) ?_ 1 _ rfl; (with_reducible repeat first | apply blk_drewN | apply blk_drew | apply blk_alloc); refine blk_put (cs := #[.int .i64 0, .int .i64 0, .int .i64 0, .int .i64 0]) ?_ 0 _ rfl; (with_reducible repeat first | apply blk_drewN | apply blk_drew | apply blk_alloc); exact BK233.out) hb); have n3_ := Aside0.mk (below_step (by repeat (first | (with_reducible first | exact HB.out | apply below_alloc | apply pw_below_drewN | apply below_drew1 | refine below_set ?_ GE219.out | refine below_set ?_ GE222.out | refine below_set ?_ GE233.out) | exact HB.out)) hb); clear BK219; clear BK222; clear BK233; clear HB; have BK219 := n0_; have BK222 := n1_; have BK233 := n2_; have HB := n3_; clear n0_ n1_ n2_ n3_; (try clear hb); (try clear hb2); (try clear hk); (try clear hi)))
                    go_ret
                    exact ⟨by first | rfl | (simp [errW_none, errW_some] <;> rfl) | (simp [*, errW_none, errW_some] <;> rfl), by repeat (first | (with_reducible first | exact HB.out | apply below_alloc | apply pw_below_drewN | apply below_drew1 | refine below_set ?_ GE219.out | refine below_set ?_ GE222.out | refine below_set ?_ GE233.out) | exact HB.out)⟩
                  ·rw [if_neg c48] at H
                   exact absurd H (by simp)
                 ·rw [if_neg c47] at H
                  exact absurd H (by simp)
                ·rw [if_neg c46] at H
                 have c46b0 : decide (x63_4 < (y228.length : Int)) = false := decide_eq_false c46
                 clear c46
                 replace H := Option.bind_eq_some_iff.mp H
                 obtain ⟨t235, A650, H⟩ := H
                 replace H : (impl_isPartition.l0 k4 a0 l2 (wrap64 (x7_2 + t235)) l2 (l2.length : Int) (wrap64 (x22_2 + 1)) a1_0 a1_1 a1_2) = some r := H
                 have A65 := Aside0.mk A650
                 clear A650
                 have H' := Aside0.mk H
                 clear H
                 have hnb66 := NB222_219.out
                 have hnc66 := NB219_222.out
                 have hcz67_0 : wr.cell? ⟨gb222, 0, none⟩ = some (.int .i64 ((rd_T65 l2 x22_2).f0.f0)) := (blk_cell BK222.out 0).trans rfl
                 have hcz67_1 : wr.cell? ⟨gb222, 1, none⟩ = some (.int .i64 ((rd_T65 l2 x22_2).f0.f1)) := (blk_cell BK222.out 1).trans rfl
                 have hcz67_2 : wr.cell? ⟨gb222, 2, none⟩ = some (.int .i64 ((rd_T65 l2 x22_2).f0.f2)) := (blk_cell BK222.out 2).trans rfl
                 have hcz67_3 : wr.cell? ⟨gb222, 3, none⟩ = some (.int .i64 ((rd_T65 l2 x22_2).f1)) := (blk_cell BK222.out 3).trans rfl
                 have hfz67_0 := blk_frozen BK222.out 0
                 have hfz67_1 := blk_frozen BK222.out 1
                 have hfz67_2 := blk_frozen BK222.out 2
                 have hfz67_3 := blk_frozen BK222.out 3
                 have hcz68_0 : wr.cell? ⟨gb219, 0, none⟩ = some (.int .i64 a1_0) := (blk_cell BK219.out 0).trans rfl
                 have hcz68_1 : wr.cell? ⟨gb219, 1, none⟩ = some (.int .i64 a1_1) := (blk_cell BK219.out 1).trans rfl
                 have hcz68_2 : wr.cell? ⟨gb219, 2, none⟩ = some (.int .i64 a1_2) := (blk_cell BK219.out 2).trans rfl
                 have hfz68_0 := blk_frozen BK219.out 0
                 have hfz68_1 := blk_frozen BK219.out 1
                 have hfz68_2 := blk_frozen BK219.out 2
                 go_wp2_with (first | ((with_reducible refine gate_callee (f := 94) rfl ?_); refine goesL_ (some 84) rfl rfl Try.func94 (by kernel_rfl) rfl #[.int .i64 a0, .int .i64 (wrap64 ((wrap64 (12 - ((rd_T65 l2 x22_2).f0.f0))) + a1_0))] rfl (by (try simp only [List.map_toArray, List.map_cons, List.map_nil]); first | done | rfl | (simp only [List.length_drop, List.length_take]; rfl)) ?_; (with_reducible refine (impl_power.calls k4 a0 (wrap64 ((wrap64 (12 - ((rd_T65 l2 x22_2).f0.f0))) + a1_0)) t235 _ A65.out).mono ?_); rintro e w' ⟨rfl, ⟨nd, rfl⟩⟩; refine ⟨_, rfl, ?_⟩))
                 go_roundg k4
                 case measure => have := HJ3.out; have := HK2.out; have := HJ10.out; have := HK4.out; omega
                 case rel => exact ⟨(wrap64 (x7_2 + t235)), (wrap64 (x22_2 + 1)), (by first | rfl | (simp; done) | (simp [*]; done) | (simp [wrap64]; done)), (by first | rfl | (simp; done) | (simp [*]; done) | (simp [wrap64]; done)), H', ⟨by have := HJ3.out; have := HK2.out; have := HJ10.out; have := HK4.out; omega⟩, ⟨by (with_reducible repeat first | apply blk_drewN | apply blk_drew | apply blk_alloc); exact BK219.out⟩, ⟨by repeat (first | (with_reducible first | exact HB.out | apply below_alloc | apply pw_below_drewN | apply below_drew1 | refine below_set ?_ GE219.out | refine below_set ?_ GE222.out) | exact HB.out)⟩⟩
             ·rw [if_neg c44] at H
              exact absurd H (by simp)
            ·rw [if_neg c43] at H
             exact absurd H (by simp)
        ·rw [if_neg c10] at H
         exact absurd H (by simp)
       ·rw [if_neg c9] at H
        exact absurd H (by simp)
      ·rw [if_neg c8] at H
       have c8b0 : decide (x22_2 < (l2.length : Int)) = false := decide_eq_false c8
       clear c8
       replace H := Option.bind_eq_some_iff.mp H
       obtain ⟨t220, A690, H⟩ := H
       replace H : (some (x7_2 == t220)) = some r := H
       have A69 := Aside0.mk A690
       clear A690
       obtain rfl := Option.some.inj H
       go_wp2_with (first | ((with_reducible refine gate_callee (f := 94) rfl ?_); refine goesL_ (some 89) rfl rfl Try.func94 (by kernel_rfl) rfl #[.int .i64 a0, .int .i64 12] rfl (by (try simp only [List.map_toArray, List.map_cons, List.map_nil]); first | done | rfl | (simp only [List.length_drop, List.length_take]; rfl)) ?_; (with_reducible refine (impl_power.calls k2 a0 12 t220 _ A69.out).mono ?_); rintro e w' ⟨rfl, ⟨nd, rfl⟩⟩; refine ⟨_, rfl, ?_⟩))
       go_ret
       exact ⟨by first | rfl | (simp [errW_none, errW_some] <;> rfl) | (simp [*, errW_none, errW_some] <;> rfl), by repeat (first | (with_reducible first | exact HB.out | apply below_alloc | apply pw_below_drewN | apply below_drew1 | refine below_set ?_ GE219.out) | exact HB.out)⟩

end Go.Proofs.Ytpocgieacicmjab.QC
