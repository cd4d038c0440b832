import Derived.Test.YtbldceikdajdlaaQDx4
import Derived.Test.YtbldceikdajdlaaQDx60
import Derived.Test.YtbldceikdajdlaaQDx62
namespace Go.Proofs.Ytbldceikdajdlaa.QD
open Go.RowKit Go.Proofs.YtbldceikdajdlaaW.PrintWords Go.Proofs.YtbldceikdajdlaaW.PrintLast Go.Proofs.YtbldceikdajdlaaW.PrintMore
attribute [local go_sem] isSome_setCell max2_int min2_int max_two min_two max_three min_three max_four min_four
set_option linter.unusedVariables false
set_option linter.unusedSimpArgs false

/-! ### impl_isPartition: function 80 -/
mutual
def impl_isPartition.j0 : Nat → Int → List (S52) → Bool → Int → Int → Int → Option (Bool)
 | 0, _, _, _, _, _, _ => none
 | k + 1, x0, x2, x19, x339000, x339001, x339002 => if x19 = true then (some false) else (impl_isPartition.l0 k x0 x2 0 x2 (x2.length : Int) 0 x339000 x339001 x339002)
def impl_isPartition.l0 : Nat → Int → List (S52) → Int → List (S52) → Int → Int → Int → Int → Int → Option (Bool)
 | 0, _, _, _, _, _, _, _, _, _ => none
 | k + 1, x0, x2, x7, x20, x21, x22, x339000, x339001, x339002 => if x22 < x21 then (if 0 ≤ x22 then (if x22 < (x20.length : Int) then ((impl_IsBall.f k x0 ((rd_T52 x20 x22).f0.f0) ((rd_T52 x20 x22).f0.f1) ((rd_T52 x20 x22).f0.f2)).bind fun t342 => (if t342 = true then ((impl_holds.f k x0 x339000 x339001 x339002 ((rd_T52 x20 x22).f0.f0) ((rd_T52 x20 x22).f0.f1) ((rd_T52 x20 x22).f0.f2)).bind fun t343 => (if t343 = true then (if x22 > 0 then ((impl_mark.f k x0 ((rd_T52 x20 x22).f0.f0) ((rd_T52 x20 x22).f0.f1) ((rd_T52 x20 x22).f0.f2)).bind fun t344 => (if 0 ≤ (wrap64 (x22 - 1)) then (if (wrap64 (x22 - 1)) < (x2.length : Int) then ((impl_mark.f k x0 ((rd_T52 x2 (wrap64 (x22 - 1))).f0.f0) ((rd_T52 x2 (wrap64 (x22 - 1))).f0.f1) ((rd_T52 x2 (wrap64 (x22 - 1))).f0.f2)).bind fun t346 => (impl_isPartition.j2 k x0 x2 x7 x22 x20 x21 x22 (decide (t344 ≤ t346)) x339000 x339001 x339002 ((rd_T52 x20 x22).f0.f0) ((rd_T52 x20 x22).f0.f1) ((rd_T52 x20 x22).f0.f2) ((rd_T52 x20 x22).f1))) else (none)) else (none))) else (impl_isPartition.j2 k x0 x2 x7 x22 x20 x21 x22 false x339000 x339001 x339002 ((rd_T52 x20 x22).f0.f0) ((rd_T52 x20 x22).f0.f1) ((rd_T52 x20 x22).f0.f2) ((rd_T52 x20 x22).f1))) else (impl_isPartition.j2 k x0 x2 x7 x22 x20 x21 x22 true x339000 x339001 x339002 ((rd_T52 x20 x22).f0.f0) ((rd_T52 x20 x22).f0.f1) ((rd_T52 x20 x22).f0.f2) ((rd_T52 x20 x22).f1)))) else (impl_isPartition.j2 k x0 x2 x7 x22 x20 x21 x22 true x339000 x339001 x339002 ((rd_T52 x20 x22).f0.f0) ((rd_T52 x20 x22).f0.f1) ((rd_T52 x20 x22).f0.f2) ((rd_T52 x20 x22).f1)))) else (none)) else (none)) else ((impl_power.f k x0 12).bind fun t339 => (some (x7 == t339)))
def impl_isPartition.j2 : Nat → Int → List (S52) → Int → Int → List (S52) → Int → Int → Bool → Int → Int → Int → Int → Int → Int → Int → Option (Bool)
 | 0, _, _, _, _, _, _, _, _, _, _, _, _, _, _, _ => none
 | k + 1, x0, x2, x7, x8, x20, x21, x22, x58, x339000, x339001, x339002, x342000, x342001, x342002, x342003 => if x58 = true then (some false) else (if 0 ≤ x8 then (if x8 ≤ (x2.length : Int) then ((some (x2.take (x8 : Int).toNat : List (S52))).bind fun y347 => (impl_isPartition.l1 k x0 x2 x7 x20 x21 x22 y347 (y347.length : Int) 0 x339000 x339001 x339002 x342000 x342001 x342002 x342003)) else (none)) else (none))
def impl_isPartition.l1 : Nat → Int → List (S52) → Int → List (S52) → Int → Int → List (S52) → Int → Int → Int → Int → Int → Int → Int → Int → Int → Option (Bool)
 | 0, _, _, _, _, _, _, _, _, _, _, _, _, _, _, _, _ => none
 | k + 1, x0, x2, x7, x20, x21, x22, x61, x62, x63, x339000, x339001, x339002, x342000, x342001, x342002, x342003 => if x63 < x62 then (if 0 ≤ x63 then (if x63 < (x61.length : Int) then ((impl_apart.f k x0 x342000 x342001 x342002 ((rd_T52 x61 x63).f0.f0) ((rd_T52 x61 x63).f0.f1) ((rd_T52 x61 x63).f0.f2)).bind fun t353 => (if t353 = true then (impl_isPartition.l1 k x0 x2 x7 x20 x21 x22 x61 x62 (wrap64 (x63 + 1)) x339000 x339001 x339002 x342000 x342001 x342002 x342003) else (some false))) else (none)) else (none)) else ((impl_power.f k x0 (wrap64 ((wrap64 (12 - x342000)) + x339000))).bind fun t354 => (impl_isPartition.l0 k x0 x2 (wrap64 (x7 + t354)) x20 x21 (wrap64 (x22 + 1)) x339000 x339001 x339002))
end
def impl_isPartition.f (k : Nat) (a0 : Int) (a1_0 : Int) (a1_1 : Int) (a1_2 : Int) (l2 : List (S52)) : Option (Bool) := if (l2.length : Int) < 1 then (impl_isPartition.j0 k a0 l2 true a1_0 a1_1 a1_2) else (impl_isPartition.j0 k a0 l2 (decide ((l2.length : Int) > 64)) a1_0 a1_1 a1_2)
def impl_isPartition.T7 : Bool × List (List Nat × List Nat) := (true, [([], []), ([], []), ([1], [1]), ([0, 2], [0, 2]), ([3], [3]), ([4, 3], [4]), ([5], [5]), ([5], [5]), ([5], [5]), ([8, 5], [5, 8]), ([6, 7, 9, 5, 5], [5, 6, 7, 9]), ([10, 5], [5, 10]), ([5, 11], [5, 11]), ([12, 10], [12]), ([13], [13]), ([14, 13], [13, 14]), ([15, 13, 13], [13, 15]), ([16], [16]), ([16], [16]), ([18, 16], [16, 18]), ([17, 19, 16, 16], [16, 17, 19]), ([16], [16]), ([16], [16]), ([16], [16]), ([23, 16], [16, 23]), ([22, 24, 16], [16, 22, 24]), ([25, 16], [16, 25]), ([26, 16], [16, 26]), ([21, 27, 20, 16], [16, 21, 27]), ([20, 28, 16], [16, 20, 28]), ([16, 29, 13], [13, 16, 29]), ([13, 30], [13, 30])])
def impl_isPartition.B7 : List Nat := [0, 0, 2, 7, 15, 31, 63, 63, 63, 319, 1023, 2047, 4095, 8191, 16383, 32767, 65535, 131071, 131071, 393215, 1048575, 131071, 131071, 131071, 8519679, 29491199, 63045631, 130154495, 268435455, 536870911, 1073741823, 2147483647]
theorem impl_isPartition.tab7 : rtab .any (opsOf Try.f80 7) = impl_isPartition.T7 := by kernel_rfl
theorem impl_isPartition.bits7 : waitsOk impl_isPartition.T7.2 impl_isPartition.B7 = true := by kernel_rfl
set_option maxHeartbeats 8000000 in
set_option maxRecDepth 100000 in
theorem impl_isPartition.calls (k : Nat) (a0 : Int) (a1_0 : Int) (a1_1 : Int) (a1_2 : Int) (A2 : Option Addr) (c2 : Nat) (l2 : List (S52)) (r : Bool) (w : World) (hr2 : Kd.C k52 w A2 l2.length l2) (hc2 : l2.length ≤ c2) (h : impl_isPartition.f k a0 a1_0 a1_1 a1_2 l2 = some r) :
  Calls Try.prog 80 #[.int .i64 a0, .agg #[.int .i64 a1_0, .int .i64 a1_1, .int .i64 a1_2], .slice A2 l2.length c2] w fun e w' => e = .returned (.bool r) ∧ Below w.heap.size w w' := by
 have hu25 := Try.underlying25
 have hu52 := Try.underlying52
 have HR2 := Aside0.mk hr2
 have HC2 := Aside0.mk hc2
 clear hr2 hc2
 have HB := Aside0.mk (Below.refl w.heap.size w)
 have H : (if (l2.length : Int) < 1 then (impl_isPartition.j0 k a0 l2 true a1_0 a1_1 a1_2) else (impl_isPartition.j0 k a0 l2 (decide ((l2.length : Int) > 64)) a1_0 a1_1 a1_2)) = some r := h
 clear h
 have HC4 := Aside0.mk H
 clear H
 go_enter Try.func80, Try.ntmps80
 go_upto_region 1 with (first | ((with_reducible refine gate_dst (N := 4) rfl ?_); (try (refine gate_guard (by rfl) ?_; dsimp only)); refine bx_ 4 #[.int .i64 a1_0, .int .i64 a1_1, .int .i64 a1_2] 25 ?_; intro gb338 hg w5 hbox hb; have BK338 := Aside0.mk (hbox); have GW338 := bs_ HB hg; have GE338 := bs_ HB hg; replace HB := bt_ HB hb; clear hb hbox hg))
 (try simp only [Act.put, lstS, lstZ, lstC])
 go_cut [19] (fun v19 wc => ∃ (kq : Nat) (x19_3 : Bool), v19 = .bool x19_3 ∧ Aside0 (impl_isPartition.j0 kq a0 l2 x19_3 a1_0 a1_1 a1_2 = some r) ∧ Aside0 (kq ≤ k) ∧ Aside0 (wc.heap[gb338]? = some (.cells #[.int .i64 a1_0, .int .i64 a1_1, .int .i64 a1_2] 25 (0, 0))) ∧ Aside0 (Below w.heap.size w wc))
 case first =>
  have H := HC4.out
  clear HC4
  by_cases c6 : (l2.length : Int) < 1
  ·rw [if_pos c6] at H
   have c6b0 : decide ((l2.length : Int) < 1) = true := decide_eq_true c6
   have c6b1 : decide (l2.length < 1) = true := decide_eq_true (by omega)
   clear c6
   (first | rw [c6b0] | (simp only [i64_w, i32_w]; rw [c6b0]) | skip)
   have H' := Aside0.mk H
   clear H
   go_wp2
   go_meet
   case rel => exact ⟨_, (true), en_, H', ⟨by first | omega | exact Nat.le_refl _⟩, bl_ BK338, bw_ HB⟩
  ·rw [if_neg c6] at H
   have c6b0 : decide ((l2.length : Int) < 1) = false := decide_eq_false c6
   have c6b1 : decide (l2.length < 1) = false := decide_eq_false (by omega)
   clear c6
   (first | rw [c6b0] | (simp only [i64_w, i32_w]; rw [c6b0]) | skip)
   have H' := Aside0.mk H
   clear H
   go_wp2
   go_meet
   case rel => exact ⟨_, (decide ((l2.length : Int) > 64)), en_, H', ⟨by first | omega | exact Nat.le_refl _⟩, bl_ BK338, bw_ HB⟩
 case rest =>
  clear HC4
  try clear c2
  try clear p2
  try clear c6
  try clear c6b0
  try clear c6b1
  obtain ⟨kq, x19_3, rfl, HA, HJ3, BK338, HB⟩ := hcut
  cases kq with
  | zero => exact absurd HA.out (by simp [impl_isPartition.j0])
  | succ kj3 =>
   have H := HA.out
   clear HA
   simp only [impl_isPartition.j0] at H
   by_cases c7 : x19_3 = true
   ·subst c7
    have H1 : (some false) = some r := by rw [if_pos rfl] at H; exact H
    clear H
    have H := H1
    clear H1
    obtain rfl := si_ H
    go_wp2
    go_ret
    exact ⟨es_, (bw_ HB).out⟩
   ·replace c7 := Bool.eq_false_iff.mpr c7
    subst c7
    have H1 : (impl_isPartition.l0 kj3 a0 l2 0 l2 (l2.length : Int) 0 a1_0 a1_1 a1_2) = some r := by rw [if_neg (show ¬ (false = true) by decide)] at H; exact H
    clear H
    have H := H1
    clear H1
    have H' := Aside0.mk H
    clear H
    go_wp2
    go_loopg [7, 22] kj3 (fun kq v7 v22 w' => ∃ (x7_2 : Int) (x22_2 : Int), v7 = .int .i64 x7_2 ∧ v22 = .int .i64 x22_2 ∧ Aside0 (impl_isPartition.l0 kq a0 l2 x7_2 l2 (l2.length : Int) x22_2 a1_0 a1_1 a1_2 = some r) ∧ Aside0 (kq ≤ kj3) ∧ Aside0 (w'.heap[gb338]? = some (.cells #[.int .i64 a1_0, .int .i64 a1_1, .int .i64 a1_2] 25 (0, 0))) ∧ Aside0 (Below w.heap.size w w'))
    case atStart => exact ⟨(0), (0), en_, en_, H', ⟨Nat.le_refl _⟩, bl_ BK338, bw_ HB⟩
    case round =>
     clear H'
     try clear c2
     try clear p2
     try clear c6
     try clear c6b0
     try clear c6b1
     try clear c7
     try clear p2
     obtain ⟨x7_2, x22_2, rfl, rfl, HA, HK2, BK338, HB⟩ := hrel
     cases gk with
     | zero => exact absurd HA.out (by simp [impl_isPartition.l0])
     | succ k2 =>
      have H := HA.out
      clear HA
      simp only [impl_isPartition.l0] at H
      by_cases c8 : x22_2 < (l2.length : Int)
      ·rw [if_pos c8] at H
       have c8b0 : decide (x22_2 < (l2.length : Int)) = true := decide_eq_true c8
       clear c8
       by_cases c9 : 0 ≤ x22_2
       ·rw [if_pos c9] at H
        have c9b0 : decide (0 ≤ x22_2) = true := decide_eq_true c9
        clear c9
        by_cases c10 : x22_2 < (l2.length : Int)
        ·rw [if_pos c10] at H
         have c10b0 : decide (x22_2 < (l2.length : Int)) = true := decide_eq_true c10
         clear c10
         have HC11 := Aside0.mk H
         clear H
         have p340 : 0 ≤ (x22_2 : Int) := od_
         have q340 : x22_2 < (l2.length : Int) := od_
         obtain ⟨ad340, e340, hx340_0, hx340_1, hx340_2, hx340_3⟩ := at_T52 HR2.out x22_2 p340 q340
         cases e340
         replace hx340_0 := clTr HB.out hx340_0
         replace hx340_1 := clTr HB.out hx340_1
         replace hx340_2 := clTr HB.out hx340_2
         replace hx340_3 := clTr HB.out hx340_3
         replace p340 := eq_true p340
         replace q340 := eq_true q340
         go_upto_region 7 with (first | ((with_reducible refine gate_dst (N := 9) rfl ?_); (try (refine gate_guard (by rfl) ?_; dsimp only)); refine bx_ 9 #[.int .i64 0, .int .i64 0, .int .i64 0, .int .i64 0] 52 ?_; intro gb341 hg w12 hbox hb; have BK341 := Aside0.mk (hbox); have GW341 := bs_ HB hg; have GE341 := bs_ HB hg; have NB338_341 := bm_ BK338 hg; have NB341_338 := bn_ BK338 hg; replace BK338 := bb_ BK338 hb; replace HB := bt_ HB hb; clear hb hbox hg; have hnb13 := NB341_338.out; have hnc13 := NB338_341.out; obtain ⟨hcz14_0, hcz14_1, hcz14_2, hcz14_3, hfz14_0, hfz14_1, hfz14_2, hfz14_3⟩ := ch4_ BK341))
         (try simp only [Act.put, lstS, lstZ, lstC])
         go_cut [58] (fun v58 wc => ∃ (kq : Nat) (x58_10 : Bool), v58 = .bool x58_10 ∧ Aside0 (impl_isPartition.j2 kq a0 l2 x7_2 x22_2 l2 (l2.length : Int) x22_2 x58_10 a1_0 a1_1 a1_2 ((rd_T52 l2 x22_2).f0.f0) ((rd_T52 l2 x22_2).f0.f1) ((rd_T52 l2 x22_2).f0.f2) ((rd_T52 l2 x22_2).f1) = some r) ∧ Aside0 (kq ≤ k2) ∧ Aside0 (wc.heap[gb338]? = some (.cells #[.int .i64 a1_0, .int .i64 a1_1, .int .i64 a1_2] 25 (0, 0))) ∧ Aside0 (wc.heap[gb341]? = some (.cells #[.int .i64 ((rd_T52 l2 x22_2).f0.f0), .int .i64 ((rd_T52 l2 x22_2).f0.f1), .int .i64 ((rd_T52 l2 x22_2).f0.f2), .int .i64 ((rd_T52 l2 x22_2).f1)] 52 (0, 0))) ∧ Aside0 (Below w.heap.size w wc))
         case first =>
          have H := HC11.out
          clear HC11
          replace H := ob_ H
          obtain ⟨t342, A150, H⟩ := H
          have A15 := Aside0.mk A150
          clear A150
          by_cases c16 : t342 = true
          ·subst c16
           have H1 : ((impl_holds.f k2 a0 a1_0 a1_1 a1_2 ((rd_T52 l2 x22_2).f0.f0) ((rd_T52 l2 x22_2).f0.f1) ((rd_T52 l2 x22_2).f0.f2)).bind fun t343 => (if t343 = true then (if x22_2 > 0 then ((impl_mark.f k2 a0 ((rd_T52 l2 x22_2).f0.f0) ((rd_T52 l2 x22_2).f0.f1) ((rd_T52 l2 x22_2).f0.f2)).bind fun t344 => (if 0 ≤ (wrap64 (x22_2 - 1)) then (if (wrap64 (x22_2 - 1)) < (l2.length : Int) then ((impl_mark.f k2 a0 ((rd_T52 l2 (wrap64 (x22_2 - 1))).f0.f0) ((rd_T52 l2 (wrap64 (x22_2 - 1))).f0.f1) ((rd_T52 l2 (wrap64 (x22_2 - 1))).f0.f2)).bind fun t346 => (impl_isPartition.j2 k2 a0 l2 x7_2 x22_2 l2 (l2.length : Int) x22_2 (decide (t344 ≤ t346)) a1_0 a1_1 a1_2 ((rd_T52 l2 x22_2).f0.f0) ((rd_T52 l2 x22_2).f0.f1) ((rd_T52 l2 x22_2).f0.f2) ((rd_T52 l2 x22_2).f1))) else (none)) else (none))) else (impl_isPartition.j2 k2 a0 l2 x7_2 x22_2 l2 (l2.length : Int) x22_2 false a1_0 a1_1 a1_2 ((rd_T52 l2 x22_2).f0.f0) ((rd_T52 l2 x22_2).f0.f1) ((rd_T52 l2 x22_2).f0.f2) ((rd_T52 l2 x22_2).f1))) else (impl_isPartition.j2 k2 a0 l2 x7_2 x22_2 l2 (l2.length : Int) x22_2 true a1_0 a1_1 a1_2 ((rd_T52 l2 x22_2).f0.f0) ((rd_T52 l2 x22_2).f0.f1) ((rd_T52 l2 x22_2).f0.f2) ((rd_T52 l2 x22_2).f1)))) = some r := by rw [if_pos rfl] at H; exact H
           clear H
           have H := H1
           clear H1
           replace H := ob_ H
           obtain ⟨t343, A170, H⟩ := H
           have A17 := Aside0.mk A170
           clear A170
           by_cases c18 : t343 = true
           ·subst c18
            have H1 : (if x22_2 > 0 then ((impl_mark.f k2 a0 ((rd_T52 l2 x22_2).f0.f0) ((rd_T52 l2 x22_2).f0.f1) ((rd_T52 l2 x22_2).f0.f2)).bind fun t344 => (if 0 ≤ (wrap64 (x22_2 - 1)) then (if (wrap64 (x22_2 - 1)) < (l2.length : Int) then ((impl_mark.f k2 a0 ((rd_T52 l2 (wrap64 (x22_2 - 1))).f0.f0) ((rd_T52 l2 (wrap64 (x22_2 - 1))).f0.f1) ((rd_T52 l2 (wrap64 (x22_2 - 1))).f0.f2)).bind fun t346 => (impl_isPartition.j2 k2 a0 l2 x7_2 x22_2 l2 (l2.length : Int) x22_2 (decide (t344 ≤ t346)) a1_0 a1_1 a1_2 ((rd_T52 l2 x22_2).f0.f0) ((rd_T52 l2 x22_2).f0.f1) ((rd_T52 l2 x22_2).f0.f2) ((rd_T52 l2 x22_2).f1))) else (none)) else (none))) else (impl_isPartition.j2 k2 a0 l2 x7_2 x22_2 l2 (l2.length : Int) x22_2 false a1_0 a1_1 a1_2 ((rd_T52 l2 x22_2).f0.f0) ((rd_T52 l2 x22_2).f0.f1) ((rd_T52 l2 x22_2).f0.f2) ((rd_T52 l2 x22_2).f1))) = some r := by rw [if_pos rfl] at H; exact H
            clear H
            have H := H1
            clear H1
            by_cases c19 : x22_2 > 0
            ·rw [if_pos c19] at H
             have c19b0 : decide (0 < x22_2) = true := decide_eq_true c19
             clear c19
             (first | rw [c19b0] | (simp only [i64_w, i32_w]; rw [c19b0]) | skip)
             replace H := ob_ H
             obtain ⟨t344, A200, H⟩ := H
             have A20 := Aside0.mk A200
             clear A200
             obtain ⟨ji21, hji21⟩ : ∃ j_ : Int, (wrap64 (x22_2 - 1)) = j_ := ⟨_, rfl⟩
             replace H : (if 0 ≤ (ji21) then (if (ji21) < (l2.length : Int) then ((impl_mark.f k2 a0 ((rd_T52 l2 (ji21)).f0.f0) ((rd_T52 l2 (ji21)).f0.f1) ((rd_T52 l2 (ji21)).f0.f2)).bind fun t346 => (impl_isPartition.j2 k2 a0 l2 x7_2 x22_2 l2 (l2.length : Int) x22_2 (decide (t344 ≤ t346)) a1_0 a1_1 a1_2 ((rd_T52 l2 x22_2).f0.f0) ((rd_T52 l2 x22_2).f0.f1) ((rd_T52 l2 x22_2).f0.f2) ((rd_T52 l2 x22_2).f1))) else (none)) else (none)) = some r := by first | (rw [hji21] at H; exact H) | (simp only [hji21] at H ⊢; exact H)
             (try rw [hji21] at A15)
             (try rw [hji21] at A17)
             (try rw [hji21] at A20)
             have hji21w : (IntKind.i64.wrap (x22_2 - 1)) = ji21 := (i64_w _).trans hji21
             by_cases c22 : 0 ≤ (ji21)
             ·rw [if_pos c22] at H
              have c22b0 : decide (0 ≤ (ji21)) = true := decide_eq_true c22
              clear c22
              by_cases c23 : (ji21) < (l2.length : Int)
              ·rw [if_pos c23] at H
               have c23b0 : decide ((ji21) < (l2.length : Int)) = true := decide_eq_true c23
               clear c23
               replace H := ob_ H
               obtain ⟨t346, A240, H⟩ := H
               have A24 := Aside0.mk A240
               clear A240
               have H' := Aside0.mk H
               clear H
               try go_wp2
               have n0_ : Aside0 (((((w12.setCell ⟨gb341, 0, none⟩ (.int .i64 ((rd_T52 l2 x22_2).f0.f0))).setCell ⟨gb341, 1, none⟩ (.int .i64 ((rd_T52 l2 x22_2).f0.f1))).setCell ⟨gb341, 2, none⟩ (.int .i64 ((rd_T52 l2 x22_2).f0.f2))).setCell ⟨gb341, 3, none⟩ (.int .i64 ((rd_T52 l2 x22_2).f1))).heap[gb338]? = some (.cells #[.int .i64 a1_0, .int .i64 a1_1, .int .i64 a1_2] 25 (0, 0))) := fl_ BK338 NB338_341
               have n1_ : Aside0 (((((w12.setCell ⟨gb341, 0, none⟩ (.int .i64 ((rd_T52 l2 x22_2).f0.f0))).setCell ⟨gb341, 1, none⟩ (.int .i64 ((rd_T52 l2 x22_2).f0.f1))).setCell ⟨gb341, 2, none⟩ (.int .i64 ((rd_T52 l2 x22_2).f0.f2))).setCell ⟨gb341, 3, none⟩ (.int .i64 ((rd_T52 l2 x22_2).f1))).heap[gb341]? = some (.cells #[.int .i64 ((rd_T52 l2 x22_2).f0.f0), .int .i64 ((rd_T52 l2 x22_2).f0.f1), .int .i64 ((rd_T52 l2 x22_2).f0.f2), .int .i64 ((rd_T52 l2 x22_2).f1)] 52 (0, 0))) := bp_ BK341
               have n2_ : Aside0 (Below w.heap.size w ((((w12.setCell ⟨gb341, 0, none⟩ (.int .i64 ((rd_T52 l2 x22_2).f0.f0))).setCell ⟨gb341, 1, none⟩ (.int .i64 ((rd_T52 l2 x22_2).f0.f1))).setCell ⟨gb341, 2, none⟩ (.int .i64 ((rd_T52 l2 x22_2).f0.f2))).setCell ⟨gb341, 3, none⟩ (.int .i64 ((rd_T52 l2 x22_2).f1)))) := bw_ HB
               (try clear BK338)
               (try clear BK341)
               (try clear HB)
               generalize ((((w12.setCell ⟨gb341, 0, none⟩ (.int .i64 ((rd_T52 l2 x22_2).f0.f0))).setCell ⟨gb341, 1, none⟩ (.int .i64 ((rd_T52 l2 x22_2).f0.f1))).setCell ⟨gb341, 2, none⟩ (.int .i64 ((rd_T52 l2 x22_2).f0.f2))).setCell ⟨gb341, 3, none⟩ (.int .i64 ((rd_T52 l2 x22_2).f1))) = w25 at n0_ n1_ n2_ ⊢
               have BK338 := n0_
               have BK341 := n1_
               have HB := n2_
               clear n0_ n1_ n2_
               (try (rw [drewN_self w25]; generalize hq_ : World.drewN w25 _ = w25; have n0_ : Aside0 (w25.heap[gb338]? = some (.cells #[.int .i64 a1_0, .int .i64 a1_1, .int .i64 a1_2] 25 (0, 0))) := ⟨by rw [← hq_]; exact (bl_ BK338).out⟩; have n1_ : Aside0 (w25.heap[gb341]? = some (.cells #[.int .i64 ((rd_T52 l2 x22_2).f0.f0), .int .i64 ((rd_T52 l2 x22_2).f0.f1), .int .i64 ((rd_T52 l2 x22_2).f0.f2), .int .i64 ((rd_T52 l2 x22_2).f1)] 52 (0, 0))) := ⟨by rw [← hq_]; exact (bl_ BK341).out⟩; have n2_ : Aside0 (Below w.heap.size w w25) := ⟨by rw [← hq_]; exact (bw_ HB).out⟩; clear BK338 BK341 HB hq_; have BK338 := n0_; have BK341 := n1_; have HB := n2_; clear n0_ n1_ n2_))
               replace BK338 := Aside0.mk (blk_drew BK338.out)
               replace BK341 := Aside0.mk (blk_drew BK341.out)
               replace HB := Aside0.mk (below_drew1 HB.out)
               have p345 : 0 ≤ ((ji21) : Int) := od_
               have q345 : (ji21) < (l2.length : Int) := od_
               obtain ⟨ad345, e345, hx345_0, hx345_1, hx345_2, hx345_3⟩ := at_T52 HR2.out (ji21) p345 q345
               have hw345_3 := hx345_3
               have hw345_2 := hx345_2
               have hw345_1 := hx345_1
               have hw345_0 := hx345_0
               obtain rfl : ad340 = ad345 := (by injection e345)
               replace hx345_0 := clTr HB.out hx345_0
               replace hx345_1 := clTr HB.out hx345_1
               replace hx345_2 := clTr HB.out hx345_2
               replace hx345_3 := clTr HB.out hx345_3
               replace p345 := eq_true p345
               replace q345 := eq_true q345
               refine start_ (n := 32) (S := fun w' => w'.cell? ⟨gb341, 0, none⟩ = some (.int .i64 ((rd_T52 l2 x22_2).f0.f0)) ∧ w'.cell? ⟨gb341, 1, none⟩ = some (.int .i64 ((rd_T52 l2 x22_2).f0.f1)) ∧ w'.cell? ⟨gb341, 2, none⟩ = some (.int .i64 ((rd_T52 l2 x22_2).f0.f2)) ∧ w'.cell? ⟨gb341, 3, none⟩ = some (.int .i64 ((rd_T52 l2 x22_2).f1)) ∧ w'.cell? ⟨gb338, 0, none⟩ = some (.int .i64 a1_0) ∧ w'.cell? ⟨gb338, 1, none⟩ = some (.int .i64 a1_1) ∧ w'.cell? ⟨gb338, 2, none⟩ = some (.int .i64 a1_2) ∧ w'.cell? (ad340.add (((ji21)).toNat * 4)) = some (.int .i64 ((rd_T52 l2 (ji21)).f0.f0)) ∧ w'.cell? ⟨(ad340.add (((ji21)).toNat * 4)).block, (ad340.add (((ji21)).toNat * 4)).off + 1, none⟩ = some (.int .i64 ((rd_T52 l2 (ji21)).f0.f1)) ∧ w'.cell? ⟨(ad340.add (((ji21)).toNat * 4)).block, (ad340.add (((ji21)).toNat * 4)).off + 2, none⟩ = some (.int .i64 ((rd_T52 l2 (ji21)).f0.f2)) ∧ w'.cell? ⟨(ad340.add (((ji21)).toNat * 4)).block, (ad340.add (((ji21)).toNat * 4)).off + 3, none⟩ = some (.int .i64 ((rd_T52 l2 (ji21)).f1))) (ds := []) (bv_ 32 0) (by kernel_rfl) rfl rfl ⟨cz_ BK341 0, cz_ BK341 1, cz_ BK341 2, cz_ BK341 3, cz_ BK338 0, cz_ BK338 1, cz_ BK338 2, (clTr HB.out hw345_0 :), (clTr HB.out hw345_1 :), (clTr HB.out hw345_2 :), (clTr HB.out hw345_3 :)⟩ (fun hHeld => ?_); refine with_tabW impl_isPartition.tab7 impl_isPartition.bits7 (fun HT_ HW_ => ?_)
               generalize w25.drew = w26 at BK338 BK341 HB hx345_0 hx345_1 hx345_2 hx345_3 hHeld ⊢
               refine pu_ HT_ 0 (some 27) (bv_ 32 1) ?_
               refine pu_ HT_ 1 (some 28) (bv_ 32 3) ?_
               refine ta_ HT_ HW_ 2 (some 29) (bv_ 32 7) hHeld ?_ (hy := by rintro w' ⟨s0, s1, s2, s3, s4, s5, s6, s7, s8, s9, s10⟩; go_simp; with_reducible rfl)
               refine one_ (i := 3) (N := some 30) (bv_ 32 15) rfl rfl (one_of HT_.out (by kernel_rfl)) (by decide) (fun K hK => ?_)
               refine goes_ Try.func28 (by kernel_rfl) rfl #[.int .i64 a0, .agg #[.int .i64 ((rd_T52 l2 x22_2).f0.f0), .int .i64 ((rd_T52 l2 x22_2).f0.f1), .int .i64 ((rd_T52 l2 x22_2).f0.f2)]] (by rfl) rfl rfl (by (try simp only [List.map_toArray, List.map_cons, List.map_nil]); first | done | rfl | (simp only [List.length_drop, List.length_take]; rfl)) ?_
               with_reducible refine (impl_IsBall.calls k2 a0 ((rd_T52 l2 x22_2).f0.f0) ((rd_T52 l2 x22_2).f0.f1) ((rd_T52 l2 x22_2).f0.f2) true _ A15.out).mono ?_
               rintro e w27 ⟨rfl, hb⟩
               refine ⟨_, rfl, ?_⟩
               replace BK338 := bb_ BK338 hb
               replace BK341 := bb_ BK341 hb
               replace HB := bt_ HB hb
               (try clear hb)
               (try clear hb2)
               (try clear hk)
               (try clear hi)
               refine hK.out _ _ ⟨cz_ BK341 0, cz_ BK341 1, cz_ BK341 2, cz_ BK341 3, cz_ BK338 0, cz_ BK338 1, cz_ BK338 2, (clTr HB.out hw345_0 :), (clTr HB.out hw345_1 :), (clTr HB.out hw345_2 :), (clTr HB.out hw345_3 :)⟩ (fun hHeld => ?_)
               clear hK K
               refine norm_ (a' := ?_) ?_ ?_
               rotate_left
               ·show Act.put _ (some 30) _ = _
                simp only [Act.put, lstS, lstZ, lstC, i64_w, i32_w]
                rfl
               refine pu_ HT_ 4 (some 31) (bv_ 32 31) ?_
               refine pu_ HT_ 5 (some 32) (bv_ 32 63) ?_
               refine pu_ HT_ 6 (some 33) (bv_ 32 127) ?_
               refine pu_ HT_ 8 (some 35) (bv_ 32 383) ?_
               refine ta_ HT_ HW_ 7 (some 34) (bv_ 32 511) hHeld ?_ (hy := by rintro w' ⟨s0, s1, s2, s3, s4, s5, s6, s7, s8, s9, s10⟩; go_simp; with_reducible rfl)
               refine ta_ HT_ HW_ 9 (some 36) (bv_ 32 1023) hHeld ?_ (hy := by rintro w' ⟨s0, s1, s2, s3, s4, s5, s6, s7, s8, s9, s10⟩; go_simp; with_reducible rfl)
               refine one_ (i := 10) (N := some 37) (bv_ 32 2047) rfl rfl (one_of HT_.out (by kernel_rfl)) (by decide) (fun K hK => ?_)
               refine goes_ Try.func50 (by kernel_rfl) rfl #[.int .i64 a0, .agg #[.int .i64 a1_0, .int .i64 a1_1, .int .i64 a1_2], .agg #[.int .i64 ((rd_T52 l2 x22_2).f0.f0), .int .i64 ((rd_T52 l2 x22_2).f0.f1), .int .i64 ((rd_T52 l2 x22_2).f0.f2)]] (by rfl) rfl rfl (by (try simp only [List.map_toArray, List.map_cons, List.map_nil]); first | done | rfl | (simp only [List.length_drop, List.length_take]; rfl)) ?_
               with_reducible refine (impl_holds.calls k2 a0 a1_0 a1_1 a1_2 ((rd_T52 l2 x22_2).f0.f0) ((rd_T52 l2 x22_2).f0.f1) ((rd_T52 l2 x22_2).f0.f2) true _ A17.out).mono ?_
               rintro e w28 ⟨rfl, hb⟩
               refine ⟨_, rfl, ?_⟩
               replace BK338 := bb_ BK338 hb
               replace BK341 := bb_ BK341 hb
               replace HB := bt_ HB hb
               (try clear hb)
               (try clear hb2)
               (try clear hk)
               (try clear hi)
               refine hK.out _ _ ⟨cz_ BK341 0, cz_ BK341 1, cz_ BK341 2, cz_ BK341 3, cz_ BK338 0, cz_ BK338 1, cz_ BK338 2, (clTr HB.out hw345_0 :), (clTr HB.out hw345_1 :), (clTr HB.out hw345_2 :), (clTr HB.out hw345_3 :)⟩ (fun hHeld => ?_)
               clear hK K
               refine norm_ (a' := ?_) ?_ ?_
               rotate_left
               ·show Act.put _ (some 37) _ = _
                simp only [Act.put, lstS, lstZ, lstC, i64_w, i32_w]
                rfl
               refine pu_ HT_ 11 (some 38) (bv_ 32 4095) ?_
               refine pu_ HT_ 12 (some 39) (bv_ 32 8191) ?_
               refine pu_ HT_ 13 (some 40) (bv_ 32 16383) ?_
               refine pu_ HT_ 14 (some 41) (bv_ 32 32767) ?_
               refine pu_ HT_ 15 (some 42) (bv_ 32 65535) ?_
               refine pu_ HT_ 16 (some 43) (bv_ 32 131071) ?_
               refine pu_ HT_ 17 (some 44) (bv_ 32 262143) ?_
               refine pu_ HT_ 18 (some 45) (bv_ 32 524287) ?_
               refine pu_ HT_ 21 (some 48) (bv_ 32 2621439) ?_
               refine pu_ HT_ 22 (some 49) (bv_ 32 6815743) ?_
               refine pu_ HT_ 23 (some 50) (bv_ 32 15204351) ?_
               refine pu_ HT_ 24 (some 51) (bv_ 32 31981567) ?_
               refine pu_ HT_ 25 (some 52) (bv_ 32 65535999) ?_
               refine pu_ HT_ 26 (some 53) (bv_ 32 132644863) ?_
               refine ta_ HT_ HW_ 19 (some 46) (bv_ 32 133169151) hHeld ?_ (hy := by rintro w' ⟨s0, s1, s2, s3, s4, s5, s6, s7, s8, s9, s10⟩; go_simp; with_reducible rfl)
               refine ta_ HT_ HW_ 27 (some 54) (bv_ 32 267386879) hHeld ?_ (hy := by rintro w' ⟨s0, s1, s2, s3, s4, s5, s6, s7, s8, s9, s10⟩; go_simp; with_reducible rfl)
               refine one_ (i := 20) (N := some 47) (bv_ 32 268435455) rfl rfl (one_of HT_.out (by kernel_rfl)) (by decide) (fun K hK => ?_)
               refine goes_ Try.func65 (by kernel_rfl) rfl #[.int .i64 a0, .agg #[.int .i64 ((rd_T52 l2 x22_2).f0.f0), .int .i64 ((rd_T52 l2 x22_2).f0.f1), .int .i64 ((rd_T52 l2 x22_2).f0.f2)]] (by rfl) rfl rfl (by (try simp only [List.map_toArray, List.map_cons, List.map_nil]); first | done | rfl | (simp only [List.length_drop, List.length_take]; rfl)) ?_
               with_reducible refine (impl_mark.calls k2 a0 ((rd_T52 l2 x22_2).f0.f0) ((rd_T52 l2 x22_2).f0.f1) ((rd_T52 l2 x22_2).f0.f2) t344 _ A20.out).mono ?_
               rintro e w29 ⟨rfl, hb⟩
               refine ⟨_, rfl, ?_⟩
               replace BK338 := bb_ BK338 hb
               replace BK341 := bb_ BK341 hb
               replace HB := bt_ HB hb
               (try clear hb)
               (try clear hb2)
               (try clear hk)
               (try clear hi)
               refine hK.out _ _ ⟨cz_ BK341 0, cz_ BK341 1, cz_ BK341 2, cz_ BK341 3, cz_ BK338 0, cz_ BK338 1, cz_ BK338 2, (clTr HB.out hw345_0 :), (clTr HB.out hw345_1 :), (clTr HB.out hw345_2 :), (clTr HB.out hw345_3 :)⟩ (fun hHeld => ?_)
               clear hK K
               refine norm_ (a' := ?_) ?_ ?_
               rotate_left
               ·show Act.put _ (some 47) _ = _
                simp only [Act.put, lstS, lstZ, lstC, i64_w, i32_w]
                rfl
               refine one_ (i := 28) (N := some 55) (bv_ 32 536870911) rfl rfl (one_of HT_.out (by kernel_rfl)) (by decide) (fun K hK => ?_)
               refine goes_ Try.func65 (by kernel_rfl) rfl #[.int .i64 a0, .agg #[.int .i64 ((rd_T52 l2 (ji21)).f0.f0), .int .i64 ((rd_T52 l2 (ji21)).f0.f1), .int .i64 ((rd_T52 l2 (ji21)).f0.f2)]] (by rfl) rfl rfl (by (try simp only [List.map_toArray, List.map_cons, List.map_nil]); first | done | (simp only [hji21]; rfl) | rfl | (simp only [List.length_drop, List.length_take]; rfl)) ?_
               with_reducible refine (impl_mark.calls k2 a0 ((rd_T52 l2 (ji21)).f0.f0) ((rd_T52 l2 (ji21)).f0.f1) ((rd_T52 l2 (ji21)).f0.f2) t346 _ A24.out).mono ?_
               rintro e w30 ⟨rfl, hb⟩
               refine ⟨_, rfl, ?_⟩
               replace BK338 := bb_ BK338 hb
               replace BK341 := bb_ BK341 hb
               replace HB := bt_ HB hb
               (try clear hb)
               (try clear hb2)
               (try clear hk)
               (try clear hi)
               refine hK.out _ _ ⟨cz_ BK341 0, cz_ BK341 1, cz_ BK341 2, cz_ BK341 3, cz_ BK338 0, cz_ BK338 1, cz_ BK338 2, (clTr HB.out hw345_0 :), (clTr HB.out hw345_1 :), (clTr HB.out hw345_2 :), (clTr HB.out hw345_3 :)⟩ (fun hHeld => ?_)
               clear hK K
               refine norm_ (a' := ?_) ?_ ?_
               rotate_left
               ·show Act.put _ (some 55) _ = _
                simp only [Act.put, lstS, lstZ, lstC, i64_w, i32_w]
                rfl
               refine pu_ HT_ 29 (some 56) (bv_ 32 1073741823) ?_
               refine pu_ HT_ 30 (some 57) (bv_ 32 2147483647) ?_
               refine pu_ HT_ 31 (some 58) (bv_ 32 4294967295) ?_
               refine done_ (done_of HT_.out (by kernel_rfl)) ?_
               try go_wp2
               go_meet
               case rel => exact ⟨_, (decide (t344 ≤ t346)), en_, H', ⟨by have := HJ3.out; have := HK2.out; first | omega | exact Nat.le_refl _⟩, bl_ BK338, bl_ BK341, bw_ HB⟩
              ·rw [if_neg c23] at H
               exact absurd H (by simp)
             ·rw [if_neg c22] at H
              exact absurd H (by simp)
            ·rw [if_neg c19] at H
             have c19b0 : decide (0 < x22_2) = false := decide_eq_false c19
             clear c19
             (first | rw [c19b0] | (simp only [i64_w, i32_w]; rw [c19b0]) | skip)
             have H' := Aside0.mk H
             clear H
             try go_wp2
             have n0_ : Aside0 (((((w12.setCell ⟨gb341, 0, none⟩ (.int .i64 ((rd_T52 l2 x22_2).f0.f0))).setCell ⟨gb341, 1, none⟩ (.int .i64 ((rd_T52 l2 x22_2).f0.f1))).setCell ⟨gb341, 2, none⟩ (.int .i64 ((rd_T52 l2 x22_2).f0.f2))).setCell ⟨gb341, 3, none⟩ (.int .i64 ((rd_T52 l2 x22_2).f1))).heap[gb338]? = some (.cells #[.int .i64 a1_0, .int .i64 a1_1, .int .i64 a1_2] 25 (0, 0))) := fl_ BK338 NB338_341
             have n1_ : Aside0 (((((w12.setCell ⟨gb341, 0, none⟩ (.int .i64 ((rd_T52 l2 x22_2).f0.f0))).setCell ⟨gb341, 1, none⟩ (.int .i64 ((rd_T52 l2 x22_2).f0.f1))).setCell ⟨gb341, 2, none⟩ (.int .i64 ((rd_T52 l2 x22_2).f0.f2))).setCell ⟨gb341, 3, none⟩ (.int .i64 ((rd_T52 l2 x22_2).f1))).heap[gb341]? = some (.cells #[.int .i64 ((rd_T52 l2 x22_2).f0.f0), .int .i64 ((rd_T52 l2 x22_2).f0.f1), .int .i64 ((rd_T52 l2 x22_2).f0.f2), .int .i64 ((rd_T52 l2 x22_2).f1)] 52 (0, 0))) := bp_ BK341
             have n2_ : Aside0 (Below w.heap.size w ((((w12.setCell ⟨gb341, 0, none⟩ (.int .i64 ((rd_T52 l2 x22_2).f0.f0))).setCell ⟨gb341, 1, none⟩ (.int .i64 ((rd_T52 l2 x22_2).f0.f1))).setCell ⟨gb341, 2, none⟩ (.int .i64 ((rd_T52 l2 x22_2).f0.f2))).setCell ⟨gb341, 3, none⟩ (.int .i64 ((rd_T52 l2 x22_2).f1)))) := bw_ HB
             (try clear BK338)
             (try clear BK341)
             (try clear HB)
             generalize ((((w12.setCell ⟨gb341, 0, none⟩ (.int .i64 ((rd_T52 l2 x22_2).f0.f0))).setCell ⟨gb341, 1, none⟩ (.int .i64 ((rd_T52 l2 x22_2).f0.f1))).setCell ⟨gb341, 2, none⟩ (.int .i64 ((rd_T52 l2 x22_2).f0.f2))).setCell ⟨gb341, 3, none⟩ (.int .i64 ((rd_T52 l2 x22_2).f1))) = w31 at n0_ n1_ n2_ ⊢
             have BK338 := n0_
             have BK341 := n1_
             have HB := n2_
             clear n0_ n1_ n2_
             (try (rw [drewN_self w31]; generalize hq_ : World.drewN w31 _ = w31; have n0_ : Aside0 (w31.heap[gb338]? = some (.cells #[.int .i64 a1_0, .int .i64 a1_1, .int .i64 a1_2] 25 (0, 0))) := ⟨by rw [← hq_]; exact (bl_ BK338).out⟩; have n1_ : Aside0 (w31.heap[gb341]? = some (.cells #[.int .i64 ((rd_T52 l2 x22_2).f0.f0), .int .i64 ((rd_T52 l2 x22_2).f0.f1), .int .i64 ((rd_T52 l2 x22_2).f0.f2), .int .i64 ((rd_T52 l2 x22_2).f1)] 52 (0, 0))) := ⟨by rw [← hq_]; exact (bl_ BK341).out⟩; have n2_ : Aside0 (Below w.heap.size w w31) := ⟨by rw [← hq_]; exact (bw_ HB).out⟩; clear BK338 BK341 HB hq_; have BK338 := n0_; have BK341 := n1_; have HB := n2_; clear n0_ n1_ n2_))
             replace BK338 := Aside0.mk (blk_drew BK338.out)
             replace BK341 := Aside0.mk (blk_drew BK341.out)
             replace HB := Aside0.mk (below_drew1 HB.out)
             refine start_ (n := 32) (S := fun w' => w'.cell? ⟨gb341, 0, none⟩ = some (.int .i64 ((rd_T52 l2 x22_2).f0.f0)) ∧ w'.cell? ⟨gb341, 1, none⟩ = some (.int .i64 ((rd_T52 l2 x22_2).f0.f1)) ∧ w'.cell? ⟨gb341, 2, none⟩ = some (.int .i64 ((rd_T52 l2 x22_2).f0.f2)) ∧ w'.cell? ⟨gb341, 3, none⟩ = some (.int .i64 ((rd_T52 l2 x22_2).f1)) ∧ w'.cell? ⟨gb338, 0, none⟩ = some (.int .i64 a1_0) ∧ w'.cell? ⟨gb338, 1, none⟩ = some (.int .i64 a1_1) ∧ w'.cell? ⟨gb338, 2, none⟩ = some (.int .i64 a1_2)) (ds := []) (bv_ 32 0) (by kernel_rfl) rfl rfl ⟨cz_ BK341 0, cz_ BK341 1, cz_ BK341 2, cz_ BK341 3, cz_ BK338 0, cz_ BK338 1, cz_ BK338 2⟩ (fun hHeld => ?_); refine with_tabW impl_isPartition.tab7 impl_isPartition.bits7 (fun HT_ HW_ => ?_)
             generalize w31.drew = w32 at BK338 BK341 HB hHeld ⊢
             refine pu_ HT_ 0 (some 27) (bv_ 32 1) ?_
             refine pu_ HT_ 1 (some 28) (bv_ 32 3) ?_
             refine ta_ HT_ HW_ 2 (some 29) (bv_ 32 7) hHeld ?_ (hy := by rintro w' ⟨s0, s1, s2, s3, s4, s5, s6⟩; go_simp; with_reducible rfl)
             refine one_ (i := 3) (N := some 30) (bv_ 32 15) rfl rfl (one_of HT_.out (by kernel_rfl)) (by decide) (fun K hK => ?_)
             refine goes_ Try.func28 (by kernel_rfl) rfl #[.int .i64 a0, .agg #[.int .i64 ((rd_T52 l2 x22_2).f0.f0), .int .i64 ((rd_T52 l2 x22_2).f0.f1), .int .i64 ((rd_T52 l2 x22_2).f0.f2)]] (by rfl) rfl rfl (by (try simp only [List.map_toArray, List.map_cons, List.map_nil]); first | done | rfl | (simp only [List.length_drop, List.length_take]; rfl)) ?_
             with_reducible refine (impl_IsBall.calls k2 a0 ((rd_T52 l2 x22_2).f0.f0) ((rd_T52 l2 x22_2).f0.f1) ((rd_T52 l2 x22_2).f0.f2) true _ A15.out).mono ?_
             rintro e w33 ⟨rfl, hb⟩
             refine ⟨_, rfl, ?_⟩
             replace BK338 := bb_ BK338 hb
             replace BK341 := bb_ BK341 hb
             replace HB := bt_ HB hb
             (try clear hb)
             (try clear hb2)
             (try clear hk)
             (try clear hi)
             refine hK.out _ _ ⟨cz_ BK341 0, cz_ BK341 1, cz_ BK341 2, cz_ BK341 3, cz_ BK338 0, cz_ BK338 1, cz_ BK338 2⟩ (fun hHeld => ?_)
             clear hK K
             refine norm_ (a' := ?_) ?_ ?_
             rotate_left
             ·show Act.put _ (some 30) _ = _
              simp only [Act.put, lstS, lstZ, lstC, i64_w, i32_w]
              rfl
             refine pu_ HT_ 4 (some 31) (bv_ 32 31) ?_
             refine pu_ HT_ 5 (some 32) (bv_ 32 63) ?_
             refine pu_ HT_ 6 (some 33) (bv_ 32 127) ?_
             refine pu_ HT_ 8 (some 35) (bv_ 32 383) ?_
             refine ta_ HT_ HW_ 7 (some 34) (bv_ 32 511) hHeld ?_ (hy := by rintro w' ⟨s0, s1, s2, s3, s4, s5, s6⟩; go_simp; with_reducible rfl)
             refine ta_ HT_ HW_ 9 (some 36) (bv_ 32 1023) hHeld ?_ (hy := by rintro w' ⟨s0, s1, s2, s3, s4, s5, s6⟩; go_simp; with_reducible rfl)
             refine one_ (i := 10) (N := some 37) (bv_ 32 2047) rfl rfl (one_of HT_.out (by kernel_rfl)) (by decide) (fun K hK => ?_)
             refine goes_ Try.func50 (by kernel_rfl) rfl #[.int .i64 a0, .agg #[.int .i64 a1_0, .int .i64 a1_1, .int .i64 a1_2], .agg #[.int .i64 ((rd_T52 l2 x22_2).f0.f0), .int .i64 ((rd_T52 l2 x22_2).f0.f1), .int .i64 ((rd_T52 l2 x22_2).f0.f2)]] (by rfl) rfl rfl (by (try simp only [List.map_toArray, List.map_cons, List.map_nil]); first | done | rfl | (simp only [List.length_drop, List.length_take]; rfl)) ?_
             with_reducible refine (impl_holds.calls k2 a0 a1_0 a1_1 a1_2 ((rd_T52 l2 x22_2).f0.f0) ((rd_T52 l2 x22_2).f0.f1) ((rd_T52 l2 x22_2).f0.f2) true _ A17.out).mono ?_
             rintro e w34 ⟨rfl, hb⟩
             refine ⟨_, rfl, ?_⟩
             replace BK338 := bb_ BK338 hb
             replace BK341 := bb_ BK341 hb
             replace HB := bt_ HB hb
             (try clear hb)
             (try clear hb2)
             (try clear hk)
             (try clear hi)
             refine hK.out _ _ ⟨cz_ BK341 0, cz_ BK341 1, cz_ BK341 2, cz_ BK341 3, cz_ BK338 0, cz_ BK338 1, cz_ BK338 2⟩ (fun hHeld => ?_)
             clear hK K
             refine norm_ (a' := ?_) ?_ ?_
             rotate_left
             ·show Act.put _ (some 37) _ = _
              simp only [Act.put, lstS, lstZ, lstC, i64_w, i32_w]
              rfl
             refine pu_ HT_ 11 (some 38) (bv_ 32 4095) ?_
             refine pu_ HT_ 12 (some 39) (bv_ 32 8191) ?_
             refine pu_ HT_ 13 (some 40) (bv_ 32 16383) ?_
             refine pu_ HT_ 14 (some 41) (bv_ 32 32767) ?_
             refine pu_ HT_ 15 (some 42) (bv_ 32 65535) ?_
             refine pu_ HT_ 16 (some 43) (bv_ 32 131071) ?_
             refine pv_ HT_ 17 (some 44) (bv_ 32 262143) ?_
             refine pv_ HT_ 18 (some 45) (bv_ 32 524287) ?_
             refine pv_ HT_ 19 (some 46) (bv_ 32 1048575) ?_
             refine pv_ HT_ 20 (some 47) (bv_ 32 2097151) ?_
             refine pv_ HT_ 21 (some 48) (bv_ 32 4194303) ?_
             refine pv_ HT_ 22 (some 49) (bv_ 32 8388607) ?_
             refine pv_ HT_ 23 (some 50) (bv_ 32 16777215) ?_
             refine pv_ HT_ 24 (some 51) (bv_ 32 33554431) ?_
             refine pv_ HT_ 25 (some 52) (bv_ 32 67108863) ?_
             refine pv_ HT_ 26 (some 53) (bv_ 32 134217727) ?_
             refine pv_ HT_ 27 (some 54) (bv_ 32 268435455) ?_
             refine pv_ HT_ 28 (some 55) (bv_ 32 536870911) ?_
             refine pv_ HT_ 29 (some 56) (bv_ 32 1073741823) ?_
             refine pu_ HT_ 30 (some 57) (bv_ 32 2147483647) ?_
             refine pu_ HT_ 31 (some 58) (bv_ 32 4294967295) ?_
             refine done_ (done_of HT_.out (by kernel_rfl)) ?_
             try go_wp2
             go_meet
             case rel => exact ⟨_, (false), en_, H', ⟨by have := HJ3.out; have := HK2.out; first | omega | exact Nat.le_refl _⟩, bl_ BK338, bl_ BK341, bw_ HB⟩
           ·replace c18 := Bool.eq_false_iff.mpr c18
            subst c18
            have H1 : (impl_isPartition.j2 k2 a0 l2 x7_2 x22_2 l2 (l2.length : Int) x22_2 true a1_0 a1_1 a1_2 ((rd_T52 l2 x22_2).f0.f0) ((rd_T52 l2 x22_2).f0.f1) ((rd_T52 l2 x22_2).f0.f2) ((rd_T52 l2 x22_2).f1)) = some r := by rw [if_neg (show ¬ (false = true) by decide)] at H; exact H
            clear H
            have H := H1
            clear H1
            have H' := Aside0.mk H
            clear H
            try go_wp2
            have n0_ : Aside0 (((((w12.setCell ⟨gb341, 0, none⟩ (.int .i64 ((rd_T52 l2 x22_2).f0.f0))).setCell ⟨gb341, 1, none⟩ (.int .i64 ((rd_T52 l2 x22_2).f0.f1))).setCell ⟨gb341, 2, none⟩ (.int .i64 ((rd_T52 l2 x22_2).f0.f2))).setCell ⟨gb341, 3, none⟩ (.int .i64 ((rd_T52 l2 x22_2).f1))).heap[gb338]? = some (.cells #[.int .i64 a1_0, .int .i64 a1_1, .int .i64 a1_2] 25 (0, 0))) := fl_ BK338 NB338_341
            have n1_ : Aside0 (((((w12.setCell ⟨gb341, 0, none⟩ (.int .i64 ((rd_T52 l2 x22_2).f0.f0))).setCell ⟨gb341, 1, none⟩ (.int .i64 ((rd_T52 l2 x22_2).f0.f1))).setCell ⟨gb341, 2, none⟩ (.int .i64 ((rd_T52 l2 x22_2).f0.f2))).setCell ⟨gb341, 3, none⟩ (.int .i64 ((rd_T52 l2 x22_2).f1))).heap[gb341]? = some (.cells #[.int .i64 ((rd_T52 l2 x22_2).f0.f0), .int .i64 ((rd_T52 l2 x22_2).f0.f1), .int .i64 ((rd_T52 l2 x22_2).f0.f2), .int .i64 ((rd_T52 l2 x22_2).f1)] 52 (0, 0))) := bp_ BK341
            have n2_ : Aside0 (Below w.heap.size w ((((w12.setCell ⟨gb341, 0, none⟩ (.int .i64 ((rd_T52 l2 x22_2).f0.f0))).setCell ⟨gb341, 1, none⟩ (.int .i64 ((rd_T52 l2 x22_2).f0.f1))).setCell ⟨gb341, 2, none⟩ (.int .i64 ((rd_T52 l2 x22_2).f0.f2))).setCell ⟨gb341, 3, none⟩ (.int .i64 ((rd_T52 l2 x22_2).f1)))) := bw_ HB
            (try clear BK338)
            (try clear BK341)
            (try clear HB)
            generalize ((((w12.setCell ⟨gb341, 0, none⟩ (.int .i64 ((rd_T52 l2 x22_2).f0.f0))).setCell ⟨gb341, 1, none⟩ (.int .i64 ((rd_T52 l2 x22_2).f0.f1))).setCell ⟨gb341, 2, none⟩ (.int .i64 ((rd_T52 l2 x22_2).f0.f2))).setCell ⟨gb341, 3, none⟩ (.int .i64 ((rd_T52 l2 x22_2).f1))) = w35 at n0_ n1_ n2_ ⊢
            have BK338 := n0_
            have BK341 := n1_
            have HB := n2_
            clear n0_ n1_ n2_
            (try (rw [drewN_self w35]; generalize hq_ : World.drewN w35 _ = w35; have n0_ : Aside0 (w35.heap[gb338]? = some (.cells #[.int .i64 a1_0, .int .i64 a1_1, .int .i64 a1_2] 25 (0, 0))) := ⟨by rw [← hq_]; exact (bl_ BK338).out⟩; have n1_ : Aside0 (w35.heap[gb341]? = some (.cells #[.int .i64 ((rd_T52 l2 x22_2).f0.f0), .int .i64 ((rd_T52 l2 x22_2).f0.f1), .int .i64 ((rd_T52 l2 x22_2).f0.f2), .int .i64 ((rd_T52 l2 x22_2).f1)] 52 (0, 0))) := ⟨by rw [← hq_]; exact (bl_ BK341).out⟩; have n2_ : Aside0 (Below w.heap.size w w35) := ⟨by rw [← hq_]; exact (bw_ HB).out⟩; clear BK338 BK341 HB hq_; have BK338 := n0_; have BK341 := n1_; have HB := n2_; clear n0_ n1_ n2_))
            replace BK338 := Aside0.mk (blk_drew BK338.out)
            replace BK341 := Aside0.mk (blk_drew BK341.out)
            replace HB := Aside0.mk (below_drew1 HB.out)
            refine start_ (n := 32) (S := fun w' => w'.cell? ⟨gb341, 0, none⟩ = some (.int .i64 ((rd_T52 l2 x22_2).f0.f0)) ∧ w'.cell? ⟨gb341, 1, none⟩ = some (.int .i64 ((rd_T52 l2 x22_2).f0.f1)) ∧ w'.cell? ⟨gb341, 2, none⟩ = some (.int .i64 ((rd_T52 l2 x22_2).f0.f2)) ∧ w'.cell? ⟨gb341, 3, none⟩ = some (.int .i64 ((rd_T52 l2 x22_2).f1)) ∧ w'.cell? ⟨gb338, 0, none⟩ = some (.int .i64 a1_0) ∧ w'.cell? ⟨gb338, 1, none⟩ = some (.int .i64 a1_1) ∧ w'.cell? ⟨gb338, 2, none⟩ = some (.int .i64 a1_2)) (ds := []) (bv_ 32 0) (by kernel_rfl) rfl rfl ⟨cz_ BK341 0, cz_ BK341 1, cz_ BK341 2, cz_ BK341 3, cz_ BK338 0, cz_ BK338 1, cz_ BK338 2⟩ (fun hHeld => ?_); refine with_tabW impl_isPartition.tab7 impl_isPartition.bits7 (fun HT_ HW_ => ?_)
            generalize w35.drew = w36 at BK338 BK341 HB hHeld ⊢
            refine pu_ HT_ 0 (some 27) (bv_ 32 1) ?_
            refine pu_ HT_ 1 (some 28) (bv_ 32 3) ?_
            refine ta_ HT_ HW_ 2 (some 29) (bv_ 32 7) hHeld ?_ (hy := by rintro w' ⟨s0, s1, s2, s3, s4, s5, s6⟩; go_simp; with_reducible rfl)
            refine one_ (i := 3) (N := some 30) (bv_ 32 15) rfl rfl (one_of HT_.out (by kernel_rfl)) (by decide) (fun K hK => ?_)
            refine goes_ Try.func28 (by kernel_rfl) rfl #[.int .i64 a0, .agg #[.int .i64 ((rd_T52 l2 x22_2).f0.f0), .int .i64 ((rd_T52 l2 x22_2).f0.f1), .int .i64 ((rd_T52 l2 x22_2).f0.f2)]] (by rfl) rfl rfl (by (try simp only [List.map_toArray, List.map_cons, List.map_nil]); first | done | rfl | (simp only [List.length_drop, List.length_take]; rfl)) ?_
            with_reducible refine (impl_IsBall.calls k2 a0 ((rd_T52 l2 x22_2).f0.f0) ((rd_T52 l2 x22_2).f0.f1) ((rd_T52 l2 x22_2).f0.f2) true _ A15.out).mono ?_
            rintro e w37 ⟨rfl, hb⟩
            refine ⟨_, rfl, ?_⟩
            replace BK338 := bb_ BK338 hb
            replace BK341 := bb_ BK341 hb
            replace HB := bt_ HB hb
            (try clear hb)
            (try clear hb2)
            (try clear hk)
            (try clear hi)
            refine hK.out _ _ ⟨cz_ BK341 0, cz_ BK341 1, cz_ BK341 2, cz_ BK341 3, cz_ BK338 0, cz_ BK338 1, cz_ BK338 2⟩ (fun hHeld => ?_)
            clear hK K
            refine norm_ (a' := ?_) ?_ ?_
            rotate_left
            ·show Act.put _ (some 30) _ = _
             simp only [Act.put, lstS, lstZ, lstC, i64_w, i32_w]
             rfl
            refine pu_ HT_ 4 (some 31) (bv_ 32 31) ?_
            refine pu_ HT_ 5 (some 32) (bv_ 32 63) ?_
            refine pu_ HT_ 6 (some 33) (bv_ 32 127) ?_
            refine pu_ HT_ 8 (some 35) (bv_ 32 383) ?_
            refine ta_ HT_ HW_ 7 (some 34) (bv_ 32 511) hHeld ?_ (hy := by rintro w' ⟨s0, s1, s2, s3, s4, s5, s6⟩; go_simp; with_reducible rfl)
            refine ta_ HT_ HW_ 9 (some 36) (bv_ 32 1023) hHeld ?_ (hy := by rintro w' ⟨s0, s1, s2, s3, s4, s5, s6⟩; go_simp; with_reducible rfl)
            refine one_ (i := 10) (N := some 37) (bv_ 32 2047) rfl rfl (one_of HT_.out (by kernel_rfl)) (by decide) (fun K hK => ?_)
            refine goes_ Try.func50 (by kernel_rfl) rfl #[.int .i64 a0, .agg #[.int .i64 a1_0, .int .i64 a1_1, .int .i64 a1_2], .agg #[.int .i64 ((rd_T52 l2 x22_2).f0.f0), .int .i64 ((rd_T52 l2 x22_2).f0.f1), .int .i64 ((rd_T52 l2 x22_2).f0.f2)]] (by rfl) rfl rfl (by (try simp only [List.map_toArray, List.map_cons, List.map_nil]); first | done | rfl | (simp only [List.length_drop, List.length_take]; rfl)) ?_
            with_reducible refine (impl_holds.calls k2 a0 a1_0 a1_1 a1_2 ((rd_T52 l2 x22_2).f0.f0) ((rd_T52 l2 x22_2).f0.f1) ((rd_T52 l2 x22_2).f0.f2) false _ A17.out).mono ?_
            rintro e w38 ⟨rfl, hb⟩
            refine ⟨_, rfl, ?_⟩
            replace BK338 := bb_ BK338 hb
            replace BK341 := bb_ BK341 hb
            replace HB := bt_ HB hb
            (try clear hb)
            (try clear hb2)
            (try clear hk)
            (try clear hi)
            refine hK.out _ _ ⟨cz_ BK341 0, cz_ BK341 1, cz_ BK341 2, cz_ BK341 3, cz_ BK338 0, cz_ BK338 1, cz_ BK338 2⟩ (fun hHeld => ?_)
            clear hK K
            refine norm_ (a' := ?_) ?_ ?_
            rotate_left
            ·show Act.put _ (some 37) _ = _
             simp only [Act.put, lstS, lstZ, lstC, i64_w, i32_w]
             rfl
            refine pu_ HT_ 11 (some 38) (bv_ 32 4095) ?_
            refine pu_ HT_ 12 (some 39) (bv_ 32 8191) ?_
            refine pu_ HT_ 13 (some 40) (bv_ 32 16383) ?_
            refine pv_ HT_ 14 (some 41) (bv_ 32 32767) ?_
            refine pv_ HT_ 15 (some 42) (bv_ 32 65535) ?_
            refine pv_ HT_ 16 (some 43) (bv_ 32 131071) ?_
            refine pv_ HT_ 17 (some 44) (bv_ 32 262143) ?_
            refine pv_ HT_ 18 (some 45) (bv_ 32 524287) ?_
            refine pv_ HT_ 19 (some 46) (bv_ 32 1048575) ?_
            refine pv_ HT_ 20 (some 47) (bv_ 32 2097151) ?_
            refine pv_ HT_ 21 (some 48) (bv_ 32 4194303) ?_
            refine pv_ HT_ 22 (some 49) (bv_ 32 8388607) ?_
            refine pv_ HT_ 23 (some 50) (bv_ 32 16777215) ?_
            refine pv_ HT_ 24 (some 51) (bv_ 32 33554431) ?_
            refine pv_ HT_ 25 (some 52) (bv_ 32 67108863) ?_
            refine pv_ HT_ 26 (some 53) (bv_ 32 134217727) ?_
            refine pv_ HT_ 27 (some 54) (bv_ 32 268435455) ?_
            refine pv_ HT_ 28 (some 55) (bv_ 32 536870911) ?_
            refine pv_ HT_ 29 (some 56) (bv_ 32 1073741823) ?_
            refine pv_ HT_ 30 (some 57) (bv_ 32 2147483647) ?_
            refine pu_ HT_ 31 (some 58) (bv_ 32 4294967295) ?_
            refine done_ (done_of HT_.out (by kernel_rfl)) ?_
            try go_wp2
            go_meet
            case rel => exact ⟨_, (true), en_, H', ⟨by have := HJ3.out; have := HK2.out; first | omega | exact Nat.le_refl _⟩, bl_ BK338, bl_ BK341, bw_ HB⟩
          ·replace c16 := Bool.eq_false_iff.mpr c16
           subst c16
           have H1 : (impl_isPartition.j2 k2 a0 l2 x7_2 x22_2 l2 (l2.length : Int) x22_2 true a1_0 a1_1 a1_2 ((rd_T52 l2 x22_2).f0.f0) ((rd_T52 l2 x22_2).f0.f1) ((rd_T52 l2 x22_2).f0.f2) ((rd_T52 l2 x22_2).f1)) = some r := by rw [if_neg (show ¬ (false = true) by decide)] at H; exact H
           clear H
           have H := H1
           clear H1
           have H' := Aside0.mk H
           clear H
           try go_wp2
           have n0_ : Aside0 (((((w12.setCell ⟨gb341, 0, none⟩ (.int .i64 ((rd_T52 l2 x22_2).f0.f0))).setCell ⟨gb341, 1, none⟩ (.int .i64 ((rd_T52 l2 x22_2).f0.f1))).setCell ⟨gb341, 2, none⟩ (.int .i64 ((rd_T52 l2 x22_2).f0.f2))).setCell ⟨gb341, 3, none⟩ (.int .i64 ((rd_T52 l2 x22_2).f1))).heap[gb338]? = some (.cells #[.int .i64 a1_0, .int .i64 a1_1, .int .i64 a1_2] 25 (0, 0))) := fl_ BK338 NB338_341
           have n1_ : Aside0 (((((w12.setCell ⟨gb341, 0, none⟩ (.int .i64 ((rd_T52 l2 x22_2).f0.f0))).setCell ⟨gb341, 1, none⟩ (.int .i64 ((rd_T52 l2 x22_2).f0.f1))).setCell ⟨gb341, 2, none⟩ (.int .i64 ((rd_T52 l2 x22_2).f0.f2))).setCell ⟨gb341, 3, none⟩ (.int .i64 ((rd_T52 l2 x22_2).f1))).heap[gb341]? = some (.cells #[.int .i64 ((rd_T52 l2 x22_2).f0.f0), .int .i64 ((rd_T52 l2 x22_2).f0.f1), .int .i64 ((rd_T52 l2 x22_2).f0.f2), .int .i64 ((rd_T52 l2 x22_2).f1)] 52 (0, 0))) := bp_ BK341
           have n2_ : Aside0 (Below w.heap.size w ((((w12.setCell ⟨gb341, 0, none⟩ (.int .i64 ((rd_T52 l2 x22_2).f0.f0))).setCell ⟨gb341, 1, none⟩ (.int .i64 ((rd_T52 l2 x22_2).f0.f1))).setCell ⟨gb341, 2, none⟩ (.int .i64 ((rd_T52 l2 x22_2).f0.f2))).setCell ⟨gb341, 3, none⟩ (.int .i64 ((rd_T52 l2 x22_2).f1)))) := bw_ HB
           (try clear BK338)
           (try clear BK341)
           (try clear HB)
           generalize ((((w12.setCell ⟨gb341, 0, none⟩ (.int .i64 ((rd_T52 l2 x22_2).f0.f0))).setCell ⟨gb341, 1, none⟩ (.int .i64 ((rd_T52 l2 x22_2).f0.f1))).setCell ⟨gb341, 2, none⟩ (.int .i64 ((rd_T52 l2 x22_2).f0.f2))).setCell ⟨gb341, 3, none⟩ (.int .i64 ((rd_T52 l2 x22_2).f1))) = w39 at n0_ n1_ n2_ ⊢
           have BK338 := n0_
           have BK341 := n1_
           have HB := n2_
           clear n0_ n1_ n2_
           (try (rw [drewN_self w39]; generalize hq_ : World.drewN w39 _ = w39; have n0_ : Aside0 (w39.heap[gb338]? = some (.cells #[.int .i64 a1_0, .int .i64 a1_1, .int .i64 a1_2] 25 (0, 0))) := ⟨by rw [← hq_]; exact (bl_ BK338).out⟩; have n1_ : Aside0 (w39.heap[gb341]? = some (.cells #[.int .i64 ((rd_T52 l2 x22_2).f0.f0), .int .i64 ((rd_T52 l2 x22_2).f0.f1), .int .i64 ((rd_T52 l2 x22_2).f0.f2), .int .i64 ((rd_T52 l2 x22_2).f1)] 52 (0, 0))) := ⟨by rw [← hq_]; exact (bl_ BK341).out⟩; have n2_ : Aside0 (Below w.heap.size w w39) := ⟨by rw [← hq_]; exact (bw_ HB).out⟩; clear BK338 BK341 HB hq_; have BK338 := n0_; have BK341 := n1_; have HB := n2_; clear n0_ n1_ n2_))
           replace BK338 := Aside0.mk (blk_drew BK338.out)
           replace BK341 := Aside0.mk (blk_drew BK341.out)
           replace HB := Aside0.mk (below_drew1 HB.out)
           refine start_ (n := 32) (S := fun w' => w'.cell? ⟨gb341, 0, none⟩ = some (.int .i64 ((rd_T52 l2 x22_2).f0.f0)) ∧ w'.cell? ⟨gb341, 1, none⟩ = some (.int .i64 ((rd_T52 l2 x22_2).f0.f1)) ∧ w'.cell? ⟨gb341, 2, none⟩ = some (.int .i64 ((rd_T52 l2 x22_2).f0.f2)) ∧ w'.cell? ⟨gb341, 3, none⟩ = some (.int .i64 ((rd_T52 l2 x22_2).f1))) (ds := []) (bv_ 32 0) (by kernel_rfl) rfl rfl ⟨cz_ BK341 0, cz_ BK341 1, cz_ BK341 2, cz_ BK341 3⟩ (fun hHeld => ?_); refine with_tabW impl_isPartition.tab7 impl_isPartition.bits7 (fun HT_ HW_ => ?_)
           generalize w39.drew = w40 at BK338 BK341 HB hHeld ⊢
           refine pu_ HT_ 0 (some 27) (bv_ 32 1) ?_
           refine pu_ HT_ 1 (some 28) (bv_ 32 3) ?_
           refine ta_ HT_ HW_ 2 (some 29) (bv_ 32 7) hHeld ?_ (hy := by rintro w' ⟨s0, s1, s2, s3⟩; go_simp; with_reducible rfl)
           refine one_ (i := 3) (N := some 30) (bv_ 32 15) rfl rfl (one_of HT_.out (by kernel_rfl)) (by decide) (fun K hK => ?_)
           refine goes_ Try.func28 (by kernel_rfl) rfl #[.int .i64 a0, .agg #[.int .i64 ((rd_T52 l2 x22_2).f0.f0), .int .i64 ((rd_T52 l2 x22_2).f0.f1), .int .i64 ((rd_T52 l2 x22_2).f0.f2)]] (by rfl) rfl rfl (by (try simp only [List.map_toArray, List.map_cons, List.map_nil]); first | done | rfl | (simp only [List.length_drop, List.length_take]; rfl)) ?_
           with_reducible refine (impl_IsBall.calls k2 a0 ((rd_T52 l2 x22_2).f0.f0) ((rd_T52 l2 x22_2).f0.f1) ((rd_T52 l2 x22_2).f0.f2) false _ A15.out).mono ?_
           rintro e w41 ⟨rfl, hb⟩
           refine ⟨_, rfl, ?_⟩
           replace BK338 := bb_ BK338 hb
           replace BK341 := bb_ BK341 hb
           replace HB := bt_ HB hb
           (try clear hb)
           (try clear hb2)
           (try clear hk)
           (try clear hi)
           refine hK.out _ _ ⟨cz_ BK341 0, cz_ BK341 1, cz_ BK341 2, cz_ BK341 3⟩ (fun hHeld => ?_)
           clear hK K
           refine norm_ (a' := ?_) ?_ ?_
           rotate_left
           ·show Act.put _ (some 30) _ = _
            simp only [Act.put, lstS, lstZ, lstC, i64_w, i32_w]
            rfl
           refine pu_ HT_ 4 (some 31) (bv_ 32 31) ?_
           refine pu_ HT_ 5 (some 32) (bv_ 32 63) ?_
           refine pv_ HT_ 6 (some 33) (bv_ 32 127) ?_
           refine pv_ HT_ 7 (some 34) (bv_ 32 255) ?_
           refine pv_ HT_ 8 (some 35) (bv_ 32 511) ?_
           refine pv_ HT_ 9 (some 36) (bv_ 32 1023) ?_
           refine pv_ HT_ 10 (some 37) (bv_ 32 2047) ?_
           refine pv_ HT_ 11 (some 38) (bv_ 32 4095) ?_
           refine pu_ HT_ 12 (some 39) (bv_ 32 8191) ?_
           refine pu_ HT_ 13 (some 40) (bv_ 32 16383) ?_
           refine pv_ HT_ 14 (some 41) (bv_ 32 32767) ?_
           refine pv_ HT_ 15 (some 42) (bv_ 32 65535) ?_
           refine pv_ HT_ 16 (some 43) (bv_ 32 131071) ?_
           refine pv_ HT_ 17 (some 44) (bv_ 32 262143) ?_
           refine pv_ HT_ 18 (some 45) (bv_ 32 524287) ?_
           refine pv_ HT_ 19 (some 46) (bv_ 32 1048575) ?_
           refine pv_ HT_ 20 (some 47) (bv_ 32 2097151) ?_
           refine pv_ HT_ 21 (some 48) (bv_ 32 4194303) ?_
           refine pv_ HT_ 22 (some 49) (bv_ 32 8388607) ?_
           refine pv_ HT_ 23 (some 50) (bv_ 32 16777215) ?_
           refine pv_ HT_ 24 (some 51) (bv_ 32 33554431) ?_
           refine pv_ HT_ 25 (some 52) (bv_ 32 67108863) ?_
           refine pv_ HT_ 26 (some 53) (bv_ 32 134217727) ?_
           refine pv_ HT_ 27 (some 54) (bv_ 32 268435455) ?_
           refine pv_ HT_ 28 (some 55) (bv_ 32 536870911) ?_
           refine pv_ HT_ 29 (some 56) (bv_ 32 1073741823) ?_
           refine pv_ HT_ 30 (some 57) (bv_ 32 2147483647) ?_
           refine pu_ HT_ 31 (some 58) (bv_ 32 4294967295) ?_
           refine done_ (done_of HT_.out (by kernel_rfl)) ?_
           try go_wp2
           go_meet
           case rel => exact ⟨_, (true), en_, H', ⟨by have := HJ3.out; have := HK2.out; first | omega | exact Nat.le_refl _⟩, bl_ BK338, bl_ BK341, bw_ HB⟩
         case rest =>
          clear HC11
          try clear c1
          try clear c2
          try clear p2
          try clear c5
          try clear c16
          try clear c18
          try clear c28
          obtain ⟨kq, x58_10, rfl, HA, HJ10, BK338, BK341, HB⟩ := hcut
          cases kq with
          | zero => exact absurd HA.out (by simp [impl_isPartition.j2])
          | succ kj10 =>
           have H := HA.out
           clear HA
           simp only [impl_isPartition.j2] at H
           by_cases c42 : x58_10 = true
           ·subst c42
            have H1 : (some false) = some r := by rw [if_pos rfl] at H; exact H
            clear H
            have H := H1
            clear H1
            obtain rfl := si_ H
            go_wp2
            go_ret
            exact ⟨es_, (bw_ HB).out⟩
           ·replace c42 := Bool.eq_false_iff.mpr c42
            subst c42
            have H1 : (if 0 ≤ x22_2 then (if x22_2 ≤ (l2.length : Int) then ((some (l2.take (x22_2 : Int).toNat : List (S52))).bind fun y347 => (impl_isPartition.l1 kj10 a0 l2 x7_2 l2 (l2.length : Int) x22_2 y347 (y347.length : Int) 0 a1_0 a1_1 a1_2 ((rd_T52 l2 x22_2).f0.f0) ((rd_T52 l2 x22_2).f0.f1) ((rd_T52 l2 x22_2).f0.f2) ((rd_T52 l2 x22_2).f1))) else (none)) else (none)) = some r := by rw [if_neg (show ¬ (false = true) by decide)] at H; exact H
            clear H
            have H := H1
            clear H1
            by_cases c43 : 0 ≤ x22_2
            ·rw [if_pos c43] at H
             have c43b0 := eq_true c43
             have c43b1 : decide (0 ≤ x22_2) = true := decide_eq_true c43
             clear c43
             by_cases c44 : x22_2 ≤ (l2.length : Int)
             ·rw [if_pos c44] at H
              have c44b0 := eq_true c44
              have c44b1 : decide (x22_2 ≤ (l2.length : Int)) = true := decide_eq_true c44
              clear c44
              obtain ⟨y347, hy347⟩ : ∃ y_ : List (S52), y_ = (l2.take (x22_2 : Int).toNat) := ⟨_, rfl⟩
              replace H : (impl_isPartition.l1 kj10 a0 l2 x7_2 l2 (l2.length : Int) x22_2 y347 (y347.length : Int) 0 a1_0 a1_1 a1_2 ((rd_T52 l2 x22_2).f0.f0) ((rd_T52 l2 x22_2).f0.f1) ((rd_T52 l2 x22_2).f0.f2) ((rd_T52 l2 x22_2).f1)) = some r := by first | (rw [hy347]; with_reducible exact H) | (have H2_ := (Option.bind_some _ _).symm.trans H; rw [hy347]; with_reducible exact H2_) | (have H2_ := (Option.bind_some _ _).symm.trans H; with_reducible exact H2_) | with_reducible exact H | (rw [hy347]; exact H) | exact H
              have Ny347 := Aside0.mk hy347
              clear hy347
              have H' := Aside0.mk H
              clear H
              have q45 : (x22_2 : Int) ≤ ((l2.length : Int) : Int) := od_
              obtain ⟨i045, hi045, _, hsz45, _⟩ := info_parts info52
              have hroom45 : l2.length ≤ c2 := HC2.out
              have hC45 : Kd.C k52 _ (some ad340) l2.length l2 := HR2.out
              have hcut45 := cut_to (P := Try.prog) 26 52 .i64 Try.underlying26 hi045 (some ad340) l2.length c2 x22_2 od_ q45 hroom45
              have hr45 := Kd.C_take (m := (x22_2 : Int).toNat) hC45 (by omega)
              have hy45 : y347.length = (x22_2 : Int).toNat := (by rw [Ny347.out, List.length_take]; omega)
              rw [← Ny347.out] at hr45
              rw [← hy45] at hcut45
              have HR350 := Aside0.mk hr45
              have HC350 := Aside0.mk (show y347.length ≤ c2 from by omega)
              clear hr45 hC45 hroom45 hi045 hsz45
              have KY45 := Aside0.mk hy45
              clear hy45
              replace q45 := eq_true q45
              go_wp2
              go_loopg [63] kj10 (fun kq v63 w' => ∃ (x63_4 : Int), v63 = .int .i64 x63_4 ∧ Aside0 (impl_isPartition.l1 kq a0 l2 x7_2 l2 (l2.length : Int) x22_2 y347 (y347.length : Int) x63_4 a1_0 a1_1 a1_2 ((rd_T52 l2 x22_2).f0.f0) ((rd_T52 l2 x22_2).f0.f1) ((rd_T52 l2 x22_2).f0.f2) ((rd_T52 l2 x22_2).f1) = some r) ∧ Aside0 (kq ≤ kj10) ∧ Aside0 (w'.heap[gb338]? = some (.cells #[.int .i64 a1_0, .int .i64 a1_1, .int .i64 a1_2] 25 (0, 0))) ∧ Aside0 (w'.heap[gb341]? = some (.cells #[.int .i64 ((rd_T52 l2 x22_2).f0.f0), .int .i64 ((rd_T52 l2 x22_2).f0.f1), .int .i64 ((rd_T52 l2 x22_2).f0.f2), .int .i64 ((rd_T52 l2 x22_2).f1)] 52 (0, 0))) ∧ Aside0 (Below w.heap.size w w'))
              case atStart => exact ⟨(0), en_, H', ⟨Nat.le_refl _⟩, bl_ BK338, bl_ BK341, bw_ HB⟩
              case round =>
               clear H'
               try clear c1
               try clear c2
               try clear p2
               try clear c4
               try clear q4
               try clear c5
               try clear c16
               try clear c18
               try clear c28
               try clear c42
               try clear c43
               try clear c43b0
               try clear c43b1
               try clear c44
               try clear c44b0
               try clear c44b1
               try clear q45
               try clear p2
               try clear q45
               obtain ⟨x63_4, rfl, HA, HK4, BK338, BK341, HB⟩ := hrel
               cases gk with
               | zero => exact absurd HA.out (by simp [impl_isPartition.l1])
               | succ k4 =>
                have H := HA.out
                clear HA
                simp only [impl_isPartition.l1] at H
                by_cases c46 : x63_4 < (y347.length : Int)
                ·rw [if_pos c46] at H
                 have c46b0 : decide (x63_4 < (y347.length : Int)) = true := decide_eq_true c46
                 clear c46
                 by_cases c47 : 0 ≤ x63_4
                 ·rw [if_pos c47] at H
                  have c47b0 : decide (0 ≤ x63_4) = true := decide_eq_true c47
                  clear c47
                  by_cases c48 : x63_4 < (y347.length : Int)
                  ·rw [if_pos c48] at H
                   have c48b0 : decide (x63_4 < (y347.length : Int)) = true := decide_eq_true c48
                   clear c48
                   replace H := ob_ H
                   obtain ⟨t353, A490, H⟩ := H
                   have A49 := Aside0.mk A490
                   clear A490
                   by_cases c50 : t353 = true
                   ·subst c50
                    have H1 : (impl_isPartition.l1 k4 a0 l2 x7_2 l2 (l2.length : Int) x22_2 y347 (y347.length : Int) (wrap64 (x63_4 + 1)) a1_0 a1_1 a1_2 ((rd_T52 l2 x22_2).f0.f0) ((rd_T52 l2 x22_2).f0.f1) ((rd_T52 l2 x22_2).f0.f2) ((rd_T52 l2 x22_2).f1)) = some r := by rw [if_pos rfl] at H; exact H
                    clear H
                    have H := H1
                    clear H1
                    have H' := Aside0.mk H
                    clear H
                    have p351 : 0 ≤ (x63_4 : Int) := od_
                    have q351 : x63_4 < (y347.length : Int) := od_
                    obtain ⟨ad351, e351, hx351_0, hx351_1, hx351_2, hx351_3⟩ := at_T52 HR350.out x63_4 p351 q351
                    obtain rfl : ad340 = ad351 := (by injection e351)
                    replace hx351_0 := clTr HB.out hx351_0
                    replace hx351_1 := clTr HB.out hx351_1
                    replace hx351_2 := clTr HB.out hx351_2
                    replace hx351_3 := clTr HB.out hx351_3
                    replace p351 := eq_true p351
                    replace q351 := eq_true q351
                    go_wp2_with (first | ((with_reducible refine gate_dst (N := 11) rfl ?_); (try (refine gate_guard (by rfl) ?_; dsimp only)); refine bx_ 11 #[.int .i64 0, .int .i64 0, .int .i64 0, .int .i64 0] 52 ?_; intro gb352 hg w51 hbox hb; have BK352 := Aside0.mk (hbox); have GW352 := bs_ HB hg; have GE352 := bs_ HB hg; have NB338_352 := bm_ BK338 hg; have NB352_338 := bn_ BK338 hg; have NB341_352 := bm_ BK341 hg; have NB352_341 := bn_ BK341 hg; replace BK338 := bb_ BK338 hb; replace BK341 := bb_ BK341 hb; replace HB := bt_ HB hb; clear hb hbox hg; have hnb52 := NB352_338.out; have hnc52 := NB338_352.out; have hnb53 := NB352_341.out; have hnc53 := NB341_352.out; obtain ⟨hcz54_0, hcz54_1, hcz54_2, hcz54_3, hfz54_0, hfz54_1, hfz54_2, hfz54_3⟩ := ch4_ BK352; have hnb55 := NB341_338.out; have hnc55 := NB338_341.out; obtain ⟨hcz56_0, hcz56_1, hcz56_2, hcz56_3, hfz56_0, hfz56_1, hfz56_2, hfz56_3⟩ := ch4_ BK341) | (refine ge_ 72 Try.func91 #[.int .i64 a0, .agg #[.int .i64 ((rd_T52 l2 x22_2).f0.f0), .int .i64 ((rd_T52 l2 x22_2).f0.f1), .int .i64 ((rd_T52 l2 x22_2).f0.f2)], .agg #[.int .i64 ((rd_T52 y347 x63_4).f0.f0), .int .i64 ((rd_T52 y347 x63_4).f0.f1), .int .i64 ((rd_T52 y347 x63_4).f0.f2)]] ?_; (with_reducible refine (impl_apart.calls k4 a0 ((rd_T52 l2 x22_2).f0.f0) ((rd_T52 l2 x22_2).f0.f1) ((rd_T52 l2 x22_2).f0.f2) ((rd_T52 y347 x63_4).f0.f0) ((rd_T52 y347 x63_4).f0.f1) ((rd_T52 y347 x63_4).f0.f2) true _ A49.out).mono ?_); rintro e w57 ⟨rfl, hb⟩; refine ⟨_, rfl, ?_⟩; replace BK338 := fb_ BK338 NB338_352 hb; replace BK341 := fb_ BK341 NB341_352 hb; replace BK352 := Aside0.mk (blk_below (g := gb352) (o := .cells #[.int .i64 ((rd_T52 y347 x63_4).f0.f0), .int .i64 ((rd_T52 y347 x63_4).f0.f1), .int .i64 ((rd_T52 y347 x63_4).f0.f2), .int .i64 ((rd_T52 y347 x63_4).f1)] 52 (0, 0)) (bp_ BK352).out hb); replace HB := bt_ HB hb; (try clear hb); (try clear hb2); (try clear hk); (try clear hi)))
                    go_roundg k4
                    case measure => have := HJ3.out; have := HK2.out; have := HJ10.out; have := HK4.out; omega
                    case rel => exact ⟨(wrap64 (x63_4 + 1)), en_, H', ⟨by have := HJ3.out; have := HK2.out; have := HJ10.out; have := HK4.out; omega⟩, bl_ BK338, bl_ BK341, bw_ HB⟩
                   ·replace c50 := Bool.eq_false_iff.mpr c50
                    subst c50
                    have H1 : (some false) = some r := by rw [if_neg (show ¬ (false = true) by decide)] at H; exact H
                    clear H
                    have H := H1
                    clear H1
                    obtain rfl := si_ H
                    have p351 : 0 ≤ (x63_4 : Int) := od_
                    have q351 : x63_4 < (y347.length : Int) := od_
                    obtain ⟨ad351, e351, hx351_0, hx351_1, hx351_2, hx351_3⟩ := at_T52 HR350.out x63_4 p351 q351
                    obtain rfl : ad340 = ad351 := (by injection e351)
                    replace hx351_0 := clTr HB.out hx351_0
                    replace hx351_1 := clTr HB.out hx351_1
                    replace hx351_2 := clTr HB.out hx351_2
                    replace hx351_3 := clTr HB.out hx351_3
                    replace p351 := eq_true p351
                    replace q351 := eq_true q351
                    go_wp2_with (first | ((with_reducible refine gate_dst (N := 11) rfl ?_); (try (refine gate_guard (by rfl) ?_; dsimp only)); refine bx_ 11 #[.int .i64 0, .int .i64 0, .int .i64 0, .int .i64 0] 52 ?_; intro gb352 hg w58 hbox hb; have BK352 := Aside0.mk (hbox); have GW352 := bs_ HB hg; have GE352 := bs_ HB hg; have NB338_352 := bm_ BK338 hg; have NB352_338 := bn_ BK338 hg; have NB341_352 := bm_ BK341 hg; have NB352_341 := bn_ BK341 hg; replace BK338 := bb_ BK338 hb; replace BK341 := bb_ BK341 hb; replace HB := bt_ HB hb; clear hb hbox hg; have hnb59 := NB352_338.out; have hnc59 := NB338_352.out; have hnb60 := NB352_341.out; have hnc60 := NB341_352.out; obtain ⟨hcz61_0, hcz61_1, hcz61_2, hcz61_3, hfz61_0, hfz61_1, hfz61_2, hfz61_3⟩ := ch4_ BK352; have hnb62 := NB341_338.out; have hnc62 := NB338_341.out; obtain ⟨hcz63_0, hcz63_1, hcz63_2, hcz63_3, hfz63_0, hfz63_1, hfz63_2, hfz63_3⟩ := ch4_ BK341) | (refine ge_ 72 Try.func91 #[.int .i64 a0, .agg #[.int .i64 ((rd_T52 l2 x22_2).f0.f0), .int .i64 ((rd_T52 l2 x22_2).f0.f1), .int .i64 ((rd_T52 l2 x22_2).f0.f2)], .agg #[.int .i64 ((rd_T52 y347 x63_4).f0.f0), .int .i64 ((rd_T52 y347 x63_4).f0.f1), .int .i64 ((rd_T52 y347 x63_4).f0.f2)]] ?_; (with_reducible refine (impl_apart.calls k4 a0 ((rd_T52 l2 x22_2).f0.f0) ((rd_T52 l2 x22_2).f0.f1) ((rd_T52 l2 x22_2).f0.f2) ((rd_T52 y347 x63_4).f0.f0) ((rd_T52 y347 x63_4).f0.f1) ((rd_T52 y347 x63_4).f0.f2) false _ A49.out).mono ?_); rintro e w64 ⟨rfl, hb⟩; refine ⟨_, rfl, ?_⟩; replace BK338 := fb_ BK338 NB338_352 hb; replace BK341 := fb_ BK341 NB341_352 hb; replace BK352 := Aside0.mk (blk_below (g := gb352) (o := .cells #[.int .i64 ((rd_T52 y347 x63_4).f0.f0), .int .i64 ((rd_T52 y347 x63_4).f0.f1), .int .i64 ((rd_T52 y347 x63_4).f0.f2), .int .i64 ((rd_T52 y347 x63_4).f1)] 52 (0, 0)) (bp_ BK352).out hb); replace HB := bt_ HB hb; (try clear hb); (try clear hb2); (try clear hk); (try clear hi)))
                    go_ret
                    exact ⟨es_, (bw_ HB).out⟩
                  ·rw [if_neg c48] at H
                   exact absurd H (by simp)
                 ·rw [if_neg c47] at H
                  exact absurd H (by simp)
                ·rw [if_neg c46] at H
                 have c46b0 : decide (x63_4 < (y347.length : Int)) = false := decide_eq_false c46
                 clear c46
                 replace H := ob_ H
                 obtain ⟨t354, A650, H⟩ := H
                 have A65 := Aside0.mk A650
                 clear A650
                 have H' := Aside0.mk H
                 clear H
                 have hnb66 := NB341_338.out
                 have hnc66 := NB338_341.out
                 obtain ⟨hcz67_0, hcz67_1, hcz67_2, hcz67_3, hfz67_0, hfz67_1, hfz67_2, hfz67_3⟩ := ch4_ BK341
                 obtain ⟨hcz68_0, hcz68_1, hcz68_2, hfz68_0, hfz68_1, hfz68_2⟩ := ch3_ BK338
                 go_wp2_with (first | (refine ge_ 84 Try.func30 #[.int .i64 a0, .int .i64 (wrap64 ((wrap64 (12 - ((rd_T52 l2 x22_2).f0.f0))) + a1_0))] ?_; (with_reducible refine (impl_power.calls k4 a0 (wrap64 ((wrap64 (12 - ((rd_T52 l2 x22_2).f0.f0))) + a1_0)) t354 _ A65.out).mono ?_); rintro e w' ⟨rfl, ⟨nd, rfl⟩⟩; refine ⟨_, rfl, ?_⟩))
                 go_roundg k4
                 case measure => have := HJ3.out; have := HK2.out; have := HJ10.out; have := HK4.out; omega
                 case rel => exact ⟨(wrap64 (x7_2 + t354)), (wrap64 (x22_2 + 1)), en_, en_, H', ⟨by have := HJ3.out; have := HK2.out; have := HJ10.out; have := HK4.out; omega⟩, bl_ BK338, bw_ HB⟩
             ·rw [if_neg c44] at H
              exact absurd H (by simp)
            ·rw [if_neg c43] at H
             exact absurd H (by simp)
        ·rw [if_neg c10] at H
         exact absurd H (by simp)
       ·rw [if_neg c9] at H
        exact absurd H (by simp)
      ·rw [if_neg c8] at H
       have c8b0 : decide (x22_2 < (l2.length : Int)) = false := decide_eq_false c8
       clear c8
       replace H := ob_ H
       obtain ⟨t339, A690, H⟩ := H
       have A69 := Aside0.mk A690
       clear A690
       obtain rfl := si_ H
       go_wp2_with (first | (refine ge_ 89 Try.func30 #[.int .i64 a0, .int .i64 12] ?_; (with_reducible refine (impl_power.calls k2 a0 12 t339 _ A69.out).mono ?_); rintro e w' ⟨rfl, ⟨nd, rfl⟩⟩; refine ⟨_, rfl, ?_⟩))
       go_ret
       exact ⟨es_, (bw_ HB).out⟩
end Go.Proofs.Ytbldceikdajdlaa.QD
