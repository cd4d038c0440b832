import Derived.Test.YtdfcoebadjhjlaaQIx5
import Derived.Test.YtdfcoebadjhjlaaQIx40
import Derived.Test.YtdfcoebadjhjlaaQIx44
namespace Go.Proofs.Ytdfcoebadjhjlaa.QI
open Go.RowKit Go.Proofs.YtdfcoebadjhjlaaW.PrintWords Go.Proofs.YtdfcoebadjhjlaaW.PrintLast Go.Proofs.YtdfcoebadjhjlaaW.PrintMore
attribute [local go_sem] isSome_setCell max2_int min2_int max_two min_two max_three min_three max_four min_four
set_option linter.unusedVariables false
set_option linter.unusedSimpArgs false

/-! ### impl_isPartition: function 71 -/
mutual
def impl_isPartition.j0 : Nat → Int → List (S72) → Bool → Int → Int → Int → Option (Bool)
 | 0, _, _, _, _, _, _ => none
 | k + 1, x0, x2, x19, x351000, x351001, x351002 => if x19 = true then (some false) else (impl_isPartition.l0 k x0 x2 0 x2 (x2.length : Int) 0 x351000 x351001 x351002)
def impl_isPartition.l0 : Nat → Int → List (S72) → Int → List (S72) → Int → Int → Int → Int → Int → Option (Bool)
 | 0, _, _, _, _, _, _, _, _, _ => none
 | k + 1, x0, x2, x7, x20, x21, x22, x351000, x351001, x351002 => if x22 < x21 then (if 0 ≤ x22 then (if x22 < (x20.length : Int) then ((impl_IsBall.f k x0 ((rd_T72 x20 x22).f0.f0) ((rd_T72 x20 x22).f0.f1) ((rd_T72 x20 x22).f0.f2)).bind fun t354 => (if t354 = true then ((impl_holds.f k x0 x351000 x351001 x351002 ((rd_T72 x20 x22).f0.f0) ((rd_T72 x20 x22).f0.f1) ((rd_T72 x20 x22).f0.f2)).bind fun t355 => (if t355 = true then (if x22 > 0 then ((impl_mark.f k x0 ((rd_T72 x20 x22).f0.f0) ((rd_T72 x20 x22).f0.f1) ((rd_T72 x20 x22).f0.f2)).bind fun t356 => (if 0 ≤ (wrap64 (x22 - 1)) then (if (wrap64 (x22 - 1)) < (x2.length : Int) then ((impl_mark.f k x0 ((rd_T72 x2 (wrap64 (x22 - 1))).f0.f0) ((rd_T72 x2 (wrap64 (x22 - 1))).f0.f1) ((rd_T72 x2 (wrap64 (x22 - 1))).f0.f2)).bind fun t358 => (impl_isPartition.j2 k x0 x2 x7 x22 x20 x21 x22 (decide (t356 ≤ t358)) x351000 x351001 x351002 ((rd_T72 x20 x22).f0.f0) ((rd_T72 x20 x22).f0.f1) ((rd_T72 x20 x22).f0.f2) ((rd_T72 x20 x22).f1))) else (none)) else (none))) else (impl_isPartition.j2 k x0 x2 x7 x22 x20 x21 x22 false x351000 x351001 x351002 ((rd_T72 x20 x22).f0.f0) ((rd_T72 x20 x22).f0.f1) ((rd_T72 x20 x22).f0.f2) ((rd_T72 x20 x22).f1))) else (impl_isPartition.j2 k x0 x2 x7 x22 x20 x21 x22 true x351000 x351001 x351002 ((rd_T72 x20 x22).f0.f0) ((rd_T72 x20 x22).f0.f1) ((rd_T72 x20 x22).f0.f2) ((rd_T72 x20 x22).f1)))) else (impl_isPartition.j2 k x0 x2 x7 x22 x20 x21 x22 true x351000 x351001 x351002 ((rd_T72 x20 x22).f0.f0) ((rd_T72 x20 x22).f0.f1) ((rd_T72 x20 x22).f0.f2) ((rd_T72 x20 x22).f1)))) else (none)) else (none)) else ((impl_power.f k x0 12).bind fun t351 => (some (x7 == t351)))
def impl_isPartition.j2 : Nat → Int → List (S72) → Int → Int → List (S72) → Int → Int → Bool → Int → Int → Int → Int → Int → Int → Int → Option (Bool)
 | 0, _, _, _, _, _, _, _, _, _, _, _, _, _, _, _ => none
 | k + 1, x0, x2, x7, x8, x20, x21, x22, x58, x351000, x351001, x351002, x354000, x354001, x354002, x354003 => if x58 = true then (some false) else (if 0 ≤ x8 then (if x8 ≤ (x2.length : Int) then ((some (x2.take (x8 : Int).toNat : List (S72))).bind fun y359 => (impl_isPartition.l1 k x0 x2 x7 x20 x21 x22 y359 (y359.length : Int) 0 x351000 x351001 x351002 x354000 x354001 x354002 x354003)) else (none)) else (none))
def impl_isPartition.l1 : Nat → Int → List (S72) → Int → List (S72) → Int → Int → List (S72) → Int → Int → Int → Int → Int → Int → Int → Int → Int → Option (Bool)
 | 0, _, _, _, _, _, _, _, _, _, _, _, _, _, _, _, _ => none
 | k + 1, x0, x2, x7, x20, x21, x22, x61, x62, x63, x351000, x351001, x351002, x354000, x354001, x354002, x354003 => if x63 < x62 then (if 0 ≤ x63 then (if x63 < (x61.length : Int) then ((impl_apart.f k x0 x354000 x354001 x354002 ((rd_T72 x61 x63).f0.f0) ((rd_T72 x61 x63).f0.f1) ((rd_T72 x61 x63).f0.f2)).bind fun t365 => (if t365 = true then (impl_isPartition.l1 k x0 x2 x7 x20 x21 x22 x61 x62 (wrap64 (x63 + 1)) x351000 x351001 x351002 x354000 x354001 x354002 x354003) else (some false))) else (none)) else (none)) else ((impl_power.f k x0 (wrap64 ((wrap64 (12 - x354000)) + x351000))).bind fun t366 => (impl_isPartition.l0 k x0 x2 (wrap64 (x7 + t366)) x20 x21 (wrap64 (x22 + 1)) x351000 x351001 x351002))
end
def impl_isPartition.f (k : Nat) (a0 a1_0 a1_1 a1_2 : Int) (l2 : List (S72)) : Option (Bool) := if (l2.length : Int) < 1 then (impl_isPartition.j0 k a0 l2 true a1_0 a1_1 a1_2) else (impl_isPartition.j0 k a0 l2 (decide ((l2.length : Int) > 64)) a1_0 a1_1 a1_2)
def impl_isPartition.T7 : Bool × List (List Nat × List Nat) := (true, [([], []), ([], []), ([1], [1]), ([0, 2], [0, 2]), ([3], [3]), ([4, 3], [4]), ([5], [5]), ([5], [5]), ([5], [5]), ([8, 5], [5, 8]), ([6, 7, 9, 5, 5], [5, 6, 7, 9]), ([10, 5], [5, 10]), ([5, 11], [5, 11]), ([12, 10], [12]), ([13], [13]), ([14, 13], [13, 14]), ([15, 13, 13], [13, 15]), ([16], [16]), ([16], [16]), ([18, 16], [16, 18]), ([17, 19, 16, 16], [16, 17, 19]), ([16], [16]), ([16], [16]), ([16], [16]), ([23, 16], [16, 23]), ([22, 24, 16], [16, 22, 24]), ([25, 16], [16, 25]), ([26, 16], [16, 26]), ([21, 27, 20, 16], [16, 21, 27]), ([20, 28, 16], [16, 20, 28]), ([16, 29, 13], [13, 16, 29]), ([13, 30], [13, 30])])
def impl_isPartition.B7 : List Nat := [0, 0, 2, 7, 15, 31, 63, 63, 63, 319, 1023, 2047, 4095, 8191, 16383, 32767, 65535, 131071, 131071, 393215, 1048575, 131071, 131071, 131071, 8519679, 29491199, 63045631, 130154495, 268435455, 536870911, 1073741823, 2147483647]
theorem impl_isPartition.tab7 : rtab .any (opsOf Try.f71 7) = impl_isPartition.T7 := by kernel_rfl
theorem impl_isPartition.bits7 : waitsOk impl_isPartition.T7.2 impl_isPartition.B7 = true := by kernel_rfl
set_option maxHeartbeats 8000000 in
set_option maxRecDepth 100000 in
theorem impl_isPartition.calls (k : Nat) (a0 a1_0 a1_1 a1_2 : Int) (A2 : Option Addr) (c2 : Nat) (l2 : List (S72)) (r : Bool) (w : World) (hr2 : Kd.C k72 w A2 l2.length l2) (hc2 : l2.length ≤ c2) (h : impl_isPartition.f k a0 a1_0 a1_1 a1_2 l2 = some r) :
  Calls Try.prog 71 #[.int .i64 a0, .agg #[.int .i64 a1_0, .int .i64 a1_1, .int .i64 a1_2], .slice A2 l2.length c2] w fun e w' => e = .returned (.bool r) ∧ Below w.heap.size w w' := by
 have hu31 := Try.underlying31
 have hu72 := Try.underlying72
 have HR2 := Aside0.mk hr2
 have HC2 := Aside0.mk hc2
 clear hr2 hc2
 have HB := Aside0.mk (Below.refl w.heap.size w)
 unfold impl_isPartition.f at h
 have H := h
 clear h
 have HC4 := Aside0.mk H
 clear H
 go_enter Try.func71, Try.ntmps71
 go_upto_region 1 with (first | ((refine gd_ 4 ?_); (try (refine gate_guard (by rfl) ?_; dsimp only)); refine by_ 4 #[.int .i64 a1_0, .int .i64 a1_1, .int .i64 a1_2] 31 HB ?_; intro gb350 hg w5 BK350 hb GW350 HB_; replace HB := HB_; clear hb hg))
 (try simp only [Act.put, lstS, lstZ, lstC])
 go_cut [19] (fun v19 wc => ∃ (kq : Nat) (x19_3 : Bool), v19 = .bool x19_3 ∧ Aside0 (impl_isPartition.j0 kq a0 l2 x19_3 a1_0 a1_1 a1_2 = some r) ∧ Aside0 (kq ≤ k) ∧ Aside0 (wc.heap[gb350]? = some (.cells #[.int .i64 a1_0, .int .i64 a1_1, .int .i64 a1_2] 31 (0, 0))) ∧ Aside0 (Below w.heap.size w wc))
 case first =>
  have H := HC4.out
  clear HC4
  by_cases c6 : (l2.length : Int) < 1
  ·rw [if_pos c6] at H
   have c6b0 : decide ((l2.length : Int) < 1) = true := decide_eq_true c6
   have c6b1 : decide (l2.length < 1) = true := decide_eq_true (by omega)
   clear c6
   (first | rw [c6b0] | (simp only [i64_w, i32_w]; rw [c6b0]) | skip)
   have H' := Aside0.mk H
   clear H
   go_wp2
   go_meet
   case rel => exact ⟨_, (true), en_, H', ⟨by first | omega | exact Nat.le_refl _⟩, bl_ BK350, bw_ HB⟩
  rw [if_neg c6] at H
  have c6b0 : decide ((l2.length : Int) < 1) = false := decide_eq_false c6
  have c6b1 : decide (l2.length < 1) = false := decide_eq_false (by omega)
  clear c6
  (first | rw [c6b0] | (simp only [i64_w, i32_w]; rw [c6b0]) | skip)
  have H' := Aside0.mk H
  clear H
  go_wp2
  go_meet
  case rel => exact ⟨_, (decide ((l2.length : Int) > 64)), en_, H', ⟨by first | omega | exact Nat.le_refl _⟩, bl_ BK350, bw_ HB⟩
 clear HC4
 try clear c2
 try clear c6
 try clear c6b0
 try clear c6b1
 obtain ⟨kq, x19_3, rfl, HA, HJ3, BK350, HB⟩ := hcut
 cases kq with
 | zero => exact absurd HA.out (by simp [impl_isPartition.j0])
 | succ kj3 =>
  have H := HA.out
  clear HA
  simp only [impl_isPartition.j0] at H
  replace H := ib_ H
  rcases H with ⟨rfl, H⟩ | ⟨rfl, H⟩
  ·obtain rfl := si_ H
   go_wp2
   go_ret
   exact ⟨es_, (bw_ HB).out⟩
  have H' := Aside0.mk H
  clear H
  go_wp2
  go_loopg [7, 22] kj3 (fun kq v7 v22 w' => ∃ (x7_2 : Int) (x22_2 : Int), v7 = .int .i64 x7_2 ∧ v22 = .int .i64 x22_2 ∧ Aside0 (impl_isPartition.l0 kq a0 l2 x7_2 l2 (l2.length : Int) x22_2 a1_0 a1_1 a1_2 = some r) ∧ Aside0 (kq ≤ kj3) ∧ Aside0 (w'.heap[gb350]? = some (.cells #[.int .i64 a1_0, .int .i64 a1_1, .int .i64 a1_2] 31 (0, 0))) ∧ Aside0 (Below w.heap.size w w'))
  case atStart => exact ⟨(0), (0), en_, en_, H', ⟨Nat.le_refl _⟩, bl_ BK350, bw_ HB⟩
  clear H'
  try clear c2
  try clear c6
  try clear c6b0
  try clear c6b1
  obtain ⟨x7_2, x22_2, rfl, rfl, HA, HK2, BK350, HB⟩ := hrel
  cases gk with
  | zero => exact absurd HA.out (by simp [impl_isPartition.l0])
  | succ k2 =>
   have H := HA.out
   clear HA
   simp only [impl_isPartition.l0] at H
   replace H := il_ H
   rcases H with ⟨c8b0, H⟩ | ⟨c8b0, H⟩
   ·replace H := imn_ H
    obtain ⟨c9b0, H⟩ := H
    replace H := iln_ H
    obtain ⟨c10b0, H⟩ := H
    have HC11 := Aside0.mk H
    clear H
    have p352 : 0 ≤ (x22_2 : Int) := od_
    have q352 : x22_2 < (l2.length : Int) := od_
    obtain ⟨ad352, e352, hx352_0, hx352_1, hx352_2, hx352_3⟩ := at_T72 HR2.out x22_2 p352 q352
    cases e352
    replace hx352_0 := clTr HB.out hx352_0
    replace hx352_1 := clTr HB.out hx352_1
    replace hx352_2 := clTr HB.out hx352_2
    replace hx352_3 := clTr HB.out hx352_3
    replace p352 := eq_true p352
    replace q352 := eq_true q352
    go_upto_region 7 with (first | ((refine gd_ 9 ?_); (try (refine gate_guard (by rfl) ?_; dsimp only)); refine by_ 9 #[.int .i64 0, .int .i64 0, .int .i64 0, .int .i64 0] 72 HB ?_; intro gb353 hg w12 BK353 hb GW353 HB_; have NB350_353 := bm_ BK350 hg; have NB353_350 := bn_ BK350 hg; replace BK350 := bb_ BK350 hb; replace HB := HB_; clear hb hg; have hnb13 := NB353_350.out; have hnc13 := NB350_353.out; obtain ⟨hcz14_0, hcz14_1, hcz14_2, hcz14_3, hfz14_0, hfz14_1, hfz14_2, hfz14_3⟩ := ch4_ BK353))
    (try simp only [Act.put, lstS, lstZ, lstC])
    go_cut [58] (fun v58 wc => ∃ (kq : Nat) (x58_10 : Bool), v58 = .bool x58_10 ∧ Aside0 (impl_isPartition.j2 kq a0 l2 x7_2 x22_2 l2 (l2.length : Int) x22_2 x58_10 a1_0 a1_1 a1_2 ((rd_T72 l2 x22_2).f0.f0) ((rd_T72 l2 x22_2).f0.f1) ((rd_T72 l2 x22_2).f0.f2) ((rd_T72 l2 x22_2).f1) = some r) ∧ Aside0 (kq ≤ k2) ∧ Aside0 (wc.heap[gb350]? = some (.cells #[.int .i64 a1_0, .int .i64 a1_1, .int .i64 a1_2] 31 (0, 0))) ∧ Aside0 (wc.heap[gb353]? = some (.cells #[.int .i64 ((rd_T72 l2 x22_2).f0.f0), .int .i64 ((rd_T72 l2 x22_2).f0.f1), .int .i64 ((rd_T72 l2 x22_2).f0.f2), .int .i64 ((rd_T72 l2 x22_2).f1)] 72 (0, 0))) ∧ Aside0 (Below w.heap.size w wc))
    case first =>
     have H := HC11.out
     clear HC11
     replace H := oc_ H
     obtain ⟨t354, A15, H⟩ := H
     replace H := ib_ H
     rcases H with ⟨rfl, H⟩ | ⟨rfl, H⟩
     ·replace H := oc_ H
      obtain ⟨t355, A17, H⟩ := H
      replace H := ib_ H
      rcases H with ⟨rfl, H⟩ | ⟨rfl, H⟩
      ·replace H := ig_ H
       rcases H with ⟨c19b0, H⟩ | ⟨c19b0, H⟩
       ·(first | rw [c19b0] | (simp only [i64_w, i32_w]; rw [c19b0]) | skip)
        replace H := oc_ H
        obtain ⟨t356, A20, H⟩ := H
        obtain ⟨ji21, hji21⟩ : ∃ j_ : Int, (wrap64 (x22_2 - 1)) = j_ := ⟨_, rfl⟩
        replace H : (if 0 ≤ (ji21) then (if (ji21) < (l2.length : Int) then ((impl_mark.f k2 a0 ((rd_T72 l2 (ji21)).f0.f0) ((rd_T72 l2 (ji21)).f0.f1) ((rd_T72 l2 (ji21)).f0.f2)).bind fun t358 => (impl_isPartition.j2 k2 a0 l2 x7_2 x22_2 l2 (l2.length : Int) x22_2 (decide (t356 ≤ t358)) a1_0 a1_1 a1_2 ((rd_T72 l2 x22_2).f0.f0) ((rd_T72 l2 x22_2).f0.f1) ((rd_T72 l2 x22_2).f0.f2) ((rd_T72 l2 x22_2).f1))) else (none)) else (none)) = some r := by first | (rw [hji21] at H; exact H) | (simp only [hji21] at H ⊢; exact H)
        (try rw [hji21] at A15)
        (try rw [hji21] at A17)
        (try rw [hji21] at A20)
        have hji21w : (IntKind.i64.wrap (x22_2 - 1)) = ji21 := (i64_w _).trans hji21
        replace H := imn_ H
        obtain ⟨c22b0, H⟩ := H
        replace H := iln_ H
        obtain ⟨c23b0, H⟩ := H
        replace H := oc_ H
        obtain ⟨t358, A24, H⟩ := H
        have H' := Aside0.mk H
        clear H
        try go_wp2
        have n0_ : Aside0 (((((w12.setCell ⟨gb353, 0, none⟩ (.int .i64 ((rd_T72 l2 x22_2).f0.f0))).setCell ⟨gb353, 1, none⟩ (.int .i64 ((rd_T72 l2 x22_2).f0.f1))).setCell ⟨gb353, 2, none⟩ (.int .i64 ((rd_T72 l2 x22_2).f0.f2))).setCell ⟨gb353, 3, none⟩ (.int .i64 ((rd_T72 l2 x22_2).f1))).heap[gb350]? = some (.cells #[.int .i64 a1_0, .int .i64 a1_1, .int .i64 a1_2] 31 (0, 0))) := fl_ BK350 NB350_353
        have n1_ : Aside0 (((((w12.setCell ⟨gb353, 0, none⟩ (.int .i64 ((rd_T72 l2 x22_2).f0.f0))).setCell ⟨gb353, 1, none⟩ (.int .i64 ((rd_T72 l2 x22_2).f0.f1))).setCell ⟨gb353, 2, none⟩ (.int .i64 ((rd_T72 l2 x22_2).f0.f2))).setCell ⟨gb353, 3, none⟩ (.int .i64 ((rd_T72 l2 x22_2).f1))).heap[gb353]? = some (.cells #[.int .i64 ((rd_T72 l2 x22_2).f0.f0), .int .i64 ((rd_T72 l2 x22_2).f0.f1), .int .i64 ((rd_T72 l2 x22_2).f0.f2), .int .i64 ((rd_T72 l2 x22_2).f1)] 72 (0, 0))) := bp_ BK353
        have n2_ : Aside0 (Below w.heap.size w ((((w12.setCell ⟨gb353, 0, none⟩ (.int .i64 ((rd_T72 l2 x22_2).f0.f0))).setCell ⟨gb353, 1, none⟩ (.int .i64 ((rd_T72 l2 x22_2).f0.f1))).setCell ⟨gb353, 2, none⟩ (.int .i64 ((rd_T72 l2 x22_2).f0.f2))).setCell ⟨gb353, 3, none⟩ (.int .i64 ((rd_T72 l2 x22_2).f1)))) := bw_ HB
        (try clear BK350)
        (try clear BK353)
        (try clear HB)
        generalize ((((w12.setCell ⟨gb353, 0, none⟩ (.int .i64 ((rd_T72 l2 x22_2).f0.f0))).setCell ⟨gb353, 1, none⟩ (.int .i64 ((rd_T72 l2 x22_2).f0.f1))).setCell ⟨gb353, 2, none⟩ (.int .i64 ((rd_T72 l2 x22_2).f0.f2))).setCell ⟨gb353, 3, none⟩ (.int .i64 ((rd_T72 l2 x22_2).f1))) = w25 at n0_ n1_ n2_ ⊢
        have BK350 := n0_
        have BK353 := n1_
        have HB := n2_
        clear n0_ n1_ n2_
        (try (rw [drewN_self w25]; generalize hq_ : World.drewN w25 _ = w25; replace BK350 := bq_ BK350 hq_; replace BK353 := bq_ BK353 hq_; replace HB := hq_' HB hq_; clear hq_))
        replace BK350 := bd_ BK350
        replace BK353 := bd_ BK353
        replace HB := be_ HB
        have p357 : 0 ≤ ((ji21) : Int) := od_
        have q357 : (ji21) < (l2.length : Int) := od_
        obtain ⟨ad357, e357, hx357_0, hx357_1, hx357_2, hx357_3⟩ := at_T72 HR2.out (ji21) p357 q357
        have hw357_3 := hx357_3
        have hw357_2 := hx357_2
        have hw357_1 := hx357_1
        have hw357_0 := hx357_0
        obtain rfl : ad352 = ad357 := (by injection e357)
        replace hx357_0 := clTr HB.out hx357_0
        replace hx357_1 := clTr HB.out hx357_1
        replace hx357_2 := clTr HB.out hx357_2
        replace hx357_3 := clTr HB.out hx357_3
        replace p357 := eq_true p357
        replace q357 := eq_true q357
        refine start_ (n := 32) (S := fun w' => w'.cell? ⟨gb353, 0, none⟩ = some (.int .i64 ((rd_T72 l2 x22_2).f0.f0)) ∧ w'.cell? ⟨gb353, 1, none⟩ = some (.int .i64 ((rd_T72 l2 x22_2).f0.f1)) ∧ w'.cell? ⟨gb353, 2, none⟩ = some (.int .i64 ((rd_T72 l2 x22_2).f0.f2)) ∧ w'.cell? ⟨gb353, 3, none⟩ = some (.int .i64 ((rd_T72 l2 x22_2).f1)) ∧ w'.cell? ⟨gb350, 0, none⟩ = some (.int .i64 a1_0) ∧ w'.cell? ⟨gb350, 1, none⟩ = some (.int .i64 a1_1) ∧ w'.cell? ⟨gb350, 2, none⟩ = some (.int .i64 a1_2) ∧ w'.cell? (ad352.add (((ji21)).toNat * 4)) = some (.int .i64 ((rd_T72 l2 (ji21)).f0.f0)) ∧ w'.cell? ⟨(ad352.add (((ji21)).toNat * 4)).block, (ad352.add (((ji21)).toNat * 4)).off + 1, none⟩ = some (.int .i64 ((rd_T72 l2 (ji21)).f0.f1)) ∧ w'.cell? ⟨(ad352.add (((ji21)).toNat * 4)).block, (ad352.add (((ji21)).toNat * 4)).off + 2, none⟩ = some (.int .i64 ((rd_T72 l2 (ji21)).f0.f2)) ∧ w'.cell? ⟨(ad352.add (((ji21)).toNat * 4)).block, (ad352.add (((ji21)).toNat * 4)).off + 3, none⟩ = some (.int .i64 ((rd_T72 l2 (ji21)).f1))) (ds := []) (bv_ 32 0) (by kernel_rfl) rfl rfl ⟨cz_ BK353 0, cz_ BK353 1, cz_ BK353 2, cz_ BK353 3, cz_ BK350 0, cz_ BK350 1, cz_ BK350 2, (clTr HB.out hw357_0 :), (clTr HB.out hw357_1 :), (clTr HB.out hw357_2 :), (clTr HB.out hw357_3 :)⟩ (fun hHeld => ?_); refine with_tabW impl_isPartition.tab7 impl_isPartition.bits7 (fun HT_ HW_ => ?_)
        generalize w25.drew = w26 at BK350 BK353 HB hx357_0 hx357_1 hx357_2 hx357_3 hHeld ⊢
        refine px_ HT_ 0 27 1 ?_
        refine px_ HT_ 1 28 3 ?_
        refine ta_ HT_ HW_ 2 (some 29) (bv_ 32 7) hHeld ?_ (hy := by rintro w' ⟨s0, s1, s2, s3, s4, s5, s6, s7, s8, s9, s10⟩; go_simp; with_reducible rfl)
        refine on_ HT_ 3 (some 30) (bv_ 32 15) (fun K hK => ?_)
        refine gs_ Try.func63 #[.int .i64 a0, .agg #[.int .i64 ((rd_T72 l2 x22_2).f0.f0), .int .i64 ((rd_T72 l2 x22_2).f0.f1), .int .i64 ((rd_T72 l2 x22_2).f0.f2)]] ?_
        with_reducible refine (impl_IsBall.calls k2 a0 ((rd_T72 l2 x22_2).f0.f0) ((rd_T72 l2 x22_2).f0.f1) ((rd_T72 l2 x22_2).f0.f2) true _ A15.out).mono ?_
        rintro e w27 ⟨rfl, hb⟩
        refine ⟨_, rfl, ?_⟩
        replace BK350 := bb_ BK350 hb
        replace BK353 := bb_ BK353 hb
        replace HB := bt_ HB hb
        try clear hb
        refine hK.out _ _ ⟨cz_ BK353 0, cz_ BK353 1, cz_ BK353 2, cz_ BK353 3, cz_ BK350 0, cz_ BK350 1, cz_ BK350 2, (clTr HB.out hw357_0 :), (clTr HB.out hw357_1 :), (clTr HB.out hw357_2 :), (clTr HB.out hw357_3 :)⟩ (fun hHeld => ?_)
        clear hK K
        refine nm_ (some 30) ?_
        refine px_ HT_ 4 31 31 ?_
        refine px_ HT_ 5 32 63 ?_
        refine px_ HT_ 6 33 127 ?_
        refine px_ HT_ 8 35 383 ?_
        refine ta_ HT_ HW_ 7 (some 34) (bv_ 32 511) hHeld ?_ (hy := by rintro w' ⟨s0, s1, s2, s3, s4, s5, s6, s7, s8, s9, s10⟩; go_simp; with_reducible rfl)
        refine ta_ HT_ HW_ 9 (some 36) (bv_ 32 1023) hHeld ?_ (hy := by rintro w' ⟨s0, s1, s2, s3, s4, s5, s6, s7, s8, s9, s10⟩; go_simp; with_reducible rfl)
        refine on_ HT_ 10 (some 37) (bv_ 32 2047) (fun K hK => ?_)
        refine gs_ Try.func51 #[.int .i64 a0, .agg #[.int .i64 a1_0, .int .i64 a1_1, .int .i64 a1_2], .agg #[.int .i64 ((rd_T72 l2 x22_2).f0.f0), .int .i64 ((rd_T72 l2 x22_2).f0.f1), .int .i64 ((rd_T72 l2 x22_2).f0.f2)]] ?_
        with_reducible refine (impl_holds.calls k2 a0 a1_0 a1_1 a1_2 ((rd_T72 l2 x22_2).f0.f0) ((rd_T72 l2 x22_2).f0.f1) ((rd_T72 l2 x22_2).f0.f2) true _ A17.out).mono ?_
        rintro e w28 ⟨rfl, hb⟩
        refine ⟨_, rfl, ?_⟩
        replace BK350 := bb_ BK350 hb
        replace BK353 := bb_ BK353 hb
        replace HB := bt_ HB hb
        try clear hb
        refine hK.out _ _ ⟨cz_ BK353 0, cz_ BK353 1, cz_ BK353 2, cz_ BK353 3, cz_ BK350 0, cz_ BK350 1, cz_ BK350 2, (clTr HB.out hw357_0 :), (clTr HB.out hw357_1 :), (clTr HB.out hw357_2 :), (clTr HB.out hw357_3 :)⟩ (fun hHeld => ?_)
        clear hK K
        refine nm_ (some 37) ?_
        refine px_ HT_ 11 38 4095 ?_
        refine px_ HT_ 12 39 8191 ?_
        refine px_ HT_ 13 40 16383 ?_
        refine px_ HT_ 14 41 32767 ?_
        refine px_ HT_ 15 42 65535 ?_
        refine px_ HT_ 16 43 131071 ?_
        refine px_ HT_ 17 44 262143 ?_
        refine px_ HT_ 18 45 524287 ?_
        refine px_ HT_ 21 48 2621439 ?_
        refine px_ HT_ 22 49 6815743 ?_
        refine px_ HT_ 23 50 15204351 ?_
        refine px_ HT_ 24 51 31981567 ?_
        refine px_ HT_ 25 52 65535999 ?_
        refine px_ HT_ 26 53 132644863 ?_
        refine ta_ HT_ HW_ 19 (some 46) (bv_ 32 133169151) hHeld ?_ (hy := by rintro w' ⟨s0, s1, s2, s3, s4, s5, s6, s7, s8, s9, s10⟩; go_simp; with_reducible rfl)
        refine ta_ HT_ HW_ 27 (some 54) (bv_ 32 267386879) hHeld ?_ (hy := by rintro w' ⟨s0, s1, s2, s3, s4, s5, s6, s7, s8, s9, s10⟩; go_simp; with_reducible rfl)
        refine on_ HT_ 20 (some 47) (bv_ 32 268435455) (fun K hK => ?_)
        refine gs_ Try.func80 #[.int .i64 a0, .agg #[.int .i64 ((rd_T72 l2 x22_2).f0.f0), .int .i64 ((rd_T72 l2 x22_2).f0.f1), .int .i64 ((rd_T72 l2 x22_2).f0.f2)]] ?_
        with_reducible refine (impl_mark.calls k2 a0 ((rd_T72 l2 x22_2).f0.f0) ((rd_T72 l2 x22_2).f0.f1) ((rd_T72 l2 x22_2).f0.f2) t356 _ A20.out).mono ?_
        rintro e w29 ⟨rfl, hb⟩
        refine ⟨_, rfl, ?_⟩
        replace BK350 := bb_ BK350 hb
        replace BK353 := bb_ BK353 hb
        replace HB := bt_ HB hb
        try clear hb
        refine hK.out _ _ ⟨cz_ BK353 0, cz_ BK353 1, cz_ BK353 2, cz_ BK353 3, cz_ BK350 0, cz_ BK350 1, cz_ BK350 2, (clTr HB.out hw357_0 :), (clTr HB.out hw357_1 :), (clTr HB.out hw357_2 :), (clTr HB.out hw357_3 :)⟩ (fun hHeld => ?_)
        clear hK K
        refine nm_ (some 47) ?_
        refine on_ HT_ 28 (some 55) (bv_ 32 536870911) (fun K hK => ?_)
        refine gs_ Try.func80 #[.int .i64 a0, .agg #[.int .i64 ((rd_T72 l2 (ji21)).f0.f0), .int .i64 ((rd_T72 l2 (ji21)).f0.f1), .int .i64 ((rd_T72 l2 (ji21)).f0.f2)]] ?_ (hargs := by (try simp only [List.map_toArray, List.map_cons, List.map_nil]); first | done | (simp only [hji21]; rfl) | rfl | (simp only [List.length_drop, List.length_take]; rfl))
        with_reducible refine (impl_mark.calls k2 a0 ((rd_T72 l2 (ji21)).f0.f0) ((rd_T72 l2 (ji21)).f0.f1) ((rd_T72 l2 (ji21)).f0.f2) t358 _ A24.out).mono ?_
        rintro e w30 ⟨rfl, hb⟩
        refine ⟨_, rfl, ?_⟩
        replace BK350 := bb_ BK350 hb
        replace BK353 := bb_ BK353 hb
        replace HB := bt_ HB hb
        try clear hb
        refine hK.out _ _ ⟨cz_ BK353 0, cz_ BK353 1, cz_ BK353 2, cz_ BK353 3, cz_ BK350 0, cz_ BK350 1, cz_ BK350 2, (clTr HB.out hw357_0 :), (clTr HB.out hw357_1 :), (clTr HB.out hw357_2 :), (clTr HB.out hw357_3 :)⟩ (fun hHeld => ?_)
        clear hK K
        refine nm_ (some 55) ?_
        refine px_ HT_ 29 56 1073741823 ?_
        refine px_ HT_ 30 57 2147483647 ?_
        refine px_ HT_ 31 58 4294967295 ?_
        refine done_ (done_of HT_.out (by kernel_rfl)) ?_
        try go_wp2
        go_meet
        case rel => exact ⟨_, (decide (t356 ≤ t358)), en_, H', ⟨by have := HJ3.out; have := HK2.out; first | omega | exact Nat.le_refl _⟩, bl_ BK350, bl_ BK353, bw_ HB⟩
       (first | rw [c19b0] | (simp only [i64_w, i32_w]; rw [c19b0]) | skip)
       have H' := Aside0.mk H
       clear H
       try go_wp2
       have n0_ : Aside0 (((((w12.setCell ⟨gb353, 0, none⟩ (.int .i64 ((rd_T72 l2 x22_2).f0.f0))).setCell ⟨gb353, 1, none⟩ (.int .i64 ((rd_T72 l2 x22_2).f0.f1))).setCell ⟨gb353, 2, none⟩ (.int .i64 ((rd_T72 l2 x22_2).f0.f2))).setCell ⟨gb353, 3, none⟩ (.int .i64 ((rd_T72 l2 x22_2).f1))).heap[gb350]? = some (.cells #[.int .i64 a1_0, .int .i64 a1_1, .int .i64 a1_2] 31 (0, 0))) := fl_ BK350 NB350_353
       have n1_ : Aside0 (((((w12.setCell ⟨gb353, 0, none⟩ (.int .i64 ((rd_T72 l2 x22_2).f0.f0))).setCell ⟨gb353, 1, none⟩ (.int .i64 ((rd_T72 l2 x22_2).f0.f1))).setCell ⟨gb353, 2, none⟩ (.int .i64 ((rd_T72 l2 x22_2).f0.f2))).setCell ⟨gb353, 3, none⟩ (.int .i64 ((rd_T72 l2 x22_2).f1))).heap[gb353]? = some (.cells #[.int .i64 ((rd_T72 l2 x22_2).f0.f0), .int .i64 ((rd_T72 l2 x22_2).f0.f1), .int .i64 ((rd_T72 l2 x22_2).f0.f2), .int .i64 ((rd_T72 l2 x22_2).f1)] 72 (0, 0))) := bp_ BK353
       have n2_ : Aside0 (Below w.heap.size w ((((w12.setCell ⟨gb353, 0, none⟩ (.int .i64 ((rd_T72 l2 x22_2).f0.f0))).setCell ⟨gb353, 1, none⟩ (.int .i64 ((rd_T72 l2 x22_2).f0.f1))).setCell ⟨gb353, 2, none⟩ (.int .i64 ((rd_T72 l2 x22_2).f0.f2))).setCell ⟨gb353, 3, none⟩ (.int .i64 ((rd_T72 l2 x22_2).f1)))) := bw_ HB
       (try clear BK350)
       (try clear BK353)
       (try clear HB)
       generalize ((((w12.setCell ⟨gb353, 0, none⟩ (.int .i64 ((rd_T72 l2 x22_2).f0.f0))).setCell ⟨gb353, 1, none⟩ (.int .i64 ((rd_T72 l2 x22_2).f0.f1))).setCell ⟨gb353, 2, none⟩ (.int .i64 ((rd_T72 l2 x22_2).f0.f2))).setCell ⟨gb353, 3, none⟩ (.int .i64 ((rd_T72 l2 x22_2).f1))) = w31 at n0_ n1_ n2_ ⊢
       have BK350 := n0_
       have BK353 := n1_
       have HB := n2_
       clear n0_ n1_ n2_
       (try (rw [drewN_self w31]; generalize hq_ : World.drewN w31 _ = w31; replace BK350 := bq_ BK350 hq_; replace BK353 := bq_ BK353 hq_; replace HB := hq_' HB hq_; clear hq_))
       replace BK350 := bd_ BK350
       replace BK353 := bd_ BK353
       replace HB := be_ HB
       refine start_ (n := 32) (S := fun w' => w'.cell? ⟨gb353, 0, none⟩ = some (.int .i64 ((rd_T72 l2 x22_2).f0.f0)) ∧ w'.cell? ⟨gb353, 1, none⟩ = some (.int .i64 ((rd_T72 l2 x22_2).f0.f1)) ∧ w'.cell? ⟨gb353, 2, none⟩ = some (.int .i64 ((rd_T72 l2 x22_2).f0.f2)) ∧ w'.cell? ⟨gb353, 3, none⟩ = some (.int .i64 ((rd_T72 l2 x22_2).f1)) ∧ w'.cell? ⟨gb350, 0, none⟩ = some (.int .i64 a1_0) ∧ w'.cell? ⟨gb350, 1, none⟩ = some (.int .i64 a1_1) ∧ w'.cell? ⟨gb350, 2, none⟩ = some (.int .i64 a1_2)) (ds := []) (bv_ 32 0) (by kernel_rfl) rfl rfl ⟨cz_ BK353 0, cz_ BK353 1, cz_ BK353 2, cz_ BK353 3, cz_ BK350 0, cz_ BK350 1, cz_ BK350 2⟩ (fun hHeld => ?_); refine with_tabW impl_isPartition.tab7 impl_isPartition.bits7 (fun HT_ HW_ => ?_)
       generalize w31.drew = w32 at BK350 BK353 HB hHeld ⊢
       refine px_ HT_ 0 27 1 ?_
       refine px_ HT_ 1 28 3 ?_
       refine ta_ HT_ HW_ 2 (some 29) (bv_ 32 7) hHeld ?_ (hy := by rintro w' ⟨s0, s1, s2, s3, s4, s5, s6⟩; go_simp; with_reducible rfl)
       refine on_ HT_ 3 (some 30) (bv_ 32 15) (fun K hK => ?_)
       refine gs_ Try.func63 #[.int .i64 a0, .agg #[.int .i64 ((rd_T72 l2 x22_2).f0.f0), .int .i64 ((rd_T72 l2 x22_2).f0.f1), .int .i64 ((rd_T72 l2 x22_2).f0.f2)]] ?_
       with_reducible refine (impl_IsBall.calls k2 a0 ((rd_T72 l2 x22_2).f0.f0) ((rd_T72 l2 x22_2).f0.f1) ((rd_T72 l2 x22_2).f0.f2) true _ A15.out).mono ?_
       rintro e w33 ⟨rfl, hb⟩
       refine ⟨_, rfl, ?_⟩
       replace BK350 := bb_ BK350 hb
       replace BK353 := bb_ BK353 hb
       replace HB := bt_ HB hb
       try clear hb
       refine hK.out _ _ ⟨cz_ BK353 0, cz_ BK353 1, cz_ BK353 2, cz_ BK353 3, cz_ BK350 0, cz_ BK350 1, cz_ BK350 2⟩ (fun hHeld => ?_)
       clear hK K
       refine nm_ (some 30) ?_
       refine px_ HT_ 4 31 31 ?_
       refine px_ HT_ 5 32 63 ?_
       refine px_ HT_ 6 33 127 ?_
       refine px_ HT_ 8 35 383 ?_
       refine ta_ HT_ HW_ 7 (some 34) (bv_ 32 511) hHeld ?_ (hy := by rintro w' ⟨s0, s1, s2, s3, s4, s5, s6⟩; go_simp; with_reducible rfl)
       refine ta_ HT_ HW_ 9 (some 36) (bv_ 32 1023) hHeld ?_ (hy := by rintro w' ⟨s0, s1, s2, s3, s4, s5, s6⟩; go_simp; with_reducible rfl)
       refine on_ HT_ 10 (some 37) (bv_ 32 2047) (fun K hK => ?_)
       refine gs_ Try.func51 #[.int .i64 a0, .agg #[.int .i64 a1_0, .int .i64 a1_1, .int .i64 a1_2], .agg #[.int .i64 ((rd_T72 l2 x22_2).f0.f0), .int .i64 ((rd_T72 l2 x22_2).f0.f1), .int .i64 ((rd_T72 l2 x22_2).f0.f2)]] ?_
       with_reducible refine (impl_holds.calls k2 a0 a1_0 a1_1 a1_2 ((rd_T72 l2 x22_2).f0.f0) ((rd_T72 l2 x22_2).f0.f1) ((rd_T72 l2 x22_2).f0.f2) true _ A17.out).mono ?_
       rintro e w34 ⟨rfl, hb⟩
       refine ⟨_, rfl, ?_⟩
       replace BK350 := bb_ BK350 hb
       replace BK353 := bb_ BK353 hb
       replace HB := bt_ HB hb
       try clear hb
       refine hK.out _ _ ⟨cz_ BK353 0, cz_ BK353 1, cz_ BK353 2, cz_ BK353 3, cz_ BK350 0, cz_ BK350 1, cz_ BK350 2⟩ (fun hHeld => ?_)
       clear hK K
       refine nm_ (some 37) ?_
       refine px_ HT_ 11 38 4095 ?_
       refine px_ HT_ 12 39 8191 ?_
       refine px_ HT_ 13 40 16383 ?_
       refine px_ HT_ 14 41 32767 ?_
       refine px_ HT_ 15 42 65535 ?_
       refine px_ HT_ 16 43 131071 ?_
       refine pv_ HT_ 17 (some 44) (bv_ 32 262143) ?_
       refine pv_ HT_ 18 (some 45) (bv_ 32 524287) ?_
       refine pv_ HT_ 19 (some 46) (bv_ 32 1048575) ?_
       refine pv_ HT_ 20 (some 47) (bv_ 32 2097151) ?_
       refine pv_ HT_ 21 (some 48) (bv_ 32 4194303) ?_
       refine pv_ HT_ 22 (some 49) (bv_ 32 8388607) ?_
       refine pv_ HT_ 23 (some 50) (bv_ 32 16777215) ?_
       refine pv_ HT_ 24 (some 51) (bv_ 32 33554431) ?_
       refine pv_ HT_ 25 (some 52) (bv_ 32 67108863) ?_
       refine pv_ HT_ 26 (some 53) (bv_ 32 134217727) ?_
       refine pv_ HT_ 27 (some 54) (bv_ 32 268435455) ?_
       refine pv_ HT_ 28 (some 55) (bv_ 32 536870911) ?_
       refine pv_ HT_ 29 (some 56) (bv_ 32 1073741823) ?_
       refine px_ HT_ 30 57 2147483647 ?_
       refine px_ HT_ 31 58 4294967295 ?_
       refine done_ (done_of HT_.out (by kernel_rfl)) ?_
       try go_wp2
       go_meet
       case rel => exact ⟨_, (false), en_, H', ⟨by have := HJ3.out; have := HK2.out; first | omega | exact Nat.le_refl _⟩, bl_ BK350, bl_ BK353, bw_ HB⟩
      have H' := Aside0.mk H
      clear H
      try go_wp2
      have n0_ : Aside0 (((((w12.setCell ⟨gb353, 0, none⟩ (.int .i64 ((rd_T72 l2 x22_2).f0.f0))).setCell ⟨gb353, 1, none⟩ (.int .i64 ((rd_T72 l2 x22_2).f0.f1))).setCell ⟨gb353, 2, none⟩ (.int .i64 ((rd_T72 l2 x22_2).f0.f2))).setCell ⟨gb353, 3, none⟩ (.int .i64 ((rd_T72 l2 x22_2).f1))).heap[gb350]? = some (.cells #[.int .i64 a1_0, .int .i64 a1_1, .int .i64 a1_2] 31 (0, 0))) := fl_ BK350 NB350_353
      have n1_ : Aside0 (((((w12.setCell ⟨gb353, 0, none⟩ (.int .i64 ((rd_T72 l2 x22_2).f0.f0))).setCell ⟨gb353, 1, none⟩ (.int .i64 ((rd_T72 l2 x22_2).f0.f1))).setCell ⟨gb353, 2, none⟩ (.int .i64 ((rd_T72 l2 x22_2).f0.f2))).setCell ⟨gb353, 3, none⟩ (.int .i64 ((rd_T72 l2 x22_2).f1))).heap[gb353]? = some (.cells #[.int .i64 ((rd_T72 l2 x22_2).f0.f0), .int .i64 ((rd_T72 l2 x22_2).f0.f1), .int .i64 ((rd_T72 l2 x22_2).f0.f2), .int .i64 ((rd_T72 l2 x22_2).f1)] 72 (0, 0))) := bp_ BK353
      have n2_ : Aside0 (Below w.heap.size w ((((w12.setCell ⟨gb353, 0, none⟩ (.int .i64 ((rd_T72 l2 x22_2).f0.f0))).setCell ⟨gb353, 1, none⟩ (.int .i64 ((rd_T72 l2 x22_2).f0.f1))).setCell ⟨gb353, 2, none⟩ (.int .i64 ((rd_T72 l2 x22_2).f0.f2))).setCell ⟨gb353, 3, none⟩ (.int .i64 ((rd_T72 l2 x22_2).f1)))) := bw_ HB
      (try clear BK350)
      (try clear BK353)
      (try clear HB)
      generalize ((((w12.setCell ⟨gb353, 0, none⟩ (.int .i64 ((rd_T72 l2 x22_2).f0.f0))).setCell ⟨gb353, 1, none⟩ (.int .i64 ((rd_T72 l2 x22_2).f0.f1))).setCell ⟨gb353, 2, none⟩ (.int .i64 ((rd_T72 l2 x22_2).f0.f2))).setCell ⟨gb353, 3, none⟩ (.int .i64 ((rd_T72 l2 x22_2).f1))) = w35 at n0_ n1_ n2_ ⊢
      have BK350 := n0_
      have BK353 := n1_
      have HB := n2_
      clear n0_ n1_ n2_
      (try (rw [drewN_self w35]; generalize hq_ : World.drewN w35 _ = w35; replace BK350 := bq_ BK350 hq_; replace BK353 := bq_ BK353 hq_; replace HB := hq_' HB hq_; clear hq_))
      replace BK350 := bd_ BK350
      replace BK353 := bd_ BK353
      replace HB := be_ HB
      refine start_ (n := 32) (S := fun w' => w'.cell? ⟨gb353, 0, none⟩ = some (.int .i64 ((rd_T72 l2 x22_2).f0.f0)) ∧ w'.cell? ⟨gb353, 1, none⟩ = some (.int .i64 ((rd_T72 l2 x22_2).f0.f1)) ∧ w'.cell? ⟨gb353, 2, none⟩ = some (.int .i64 ((rd_T72 l2 x22_2).f0.f2)) ∧ w'.cell? ⟨gb353, 3, none⟩ = some (.int .i64 ((rd_T72 l2 x22_2).f1)) ∧ w'.cell? ⟨gb350, 0, none⟩ = some (.int .i64 a1_0) ∧ w'.cell? ⟨gb350, 1, none⟩ = some (.int .i64 a1_1) ∧ w'.cell? ⟨gb350, 2, none⟩ = some (.int .i64 a1_2)) (ds := []) (bv_ 32 0) (by kernel_rfl) rfl rfl ⟨cz_ BK353 0, cz_ BK353 1, cz_ BK353 2, cz_ BK353 3, cz_ BK350 0, cz_ BK350 1, cz_ BK350 2⟩ (fun hHeld => ?_); refine with_tabW impl_isPartition.tab7 impl_isPartition.bits7 (fun HT_ HW_ => ?_)
      generalize w35.drew = w36 at BK350 BK353 HB hHeld ⊢
      refine px_ HT_ 0 27 1 ?_
      refine px_ HT_ 1 28 3 ?_
      refine ta_ HT_ HW_ 2 (some 29) (bv_ 32 7) hHeld ?_ (hy := by rintro w' ⟨s0, s1, s2, s3, s4, s5, s6⟩; go_simp; with_reducible rfl)
      refine on_ HT_ 3 (some 30) (bv_ 32 15) (fun K hK => ?_)
      refine gs_ Try.func63 #[.int .i64 a0, .agg #[.int .i64 ((rd_T72 l2 x22_2).f0.f0), .int .i64 ((rd_T72 l2 x22_2).f0.f1), .int .i64 ((rd_T72 l2 x22_2).f0.f2)]] ?_
      with_reducible refine (impl_IsBall.calls k2 a0 ((rd_T72 l2 x22_2).f0.f0) ((rd_T72 l2 x22_2).f0.f1) ((rd_T72 l2 x22_2).f0.f2) true _ A15.out).mono ?_
      rintro e w37 ⟨rfl, hb⟩
      refine ⟨_, rfl, ?_⟩
      replace BK350 := bb_ BK350 hb
      replace BK353 := bb_ BK353 hb
      replace HB := bt_ HB hb
      try clear hb
      refine hK.out _ _ ⟨cz_ BK353 0, cz_ BK353 1, cz_ BK353 2, cz_ BK353 3, cz_ BK350 0, cz_ BK350 1, cz_ BK350 2⟩ (fun hHeld => ?_)
      clear hK K
      refine nm_ (some 30) ?_
      refine px_ HT_ 4 31 31 ?_
      refine px_ HT_ 5 32 63 ?_
      refine px_ HT_ 6 33 127 ?_
      refine px_ HT_ 8 35 383 ?_
      refine ta_ HT_ HW_ 7 (some 34) (bv_ 32 511) hHeld ?_ (hy := by rintro w' ⟨s0, s1, s2, s3, s4, s5, s6⟩; go_simp; with_reducible rfl)
      refine ta_ HT_ HW_ 9 (some 36) (bv_ 32 1023) hHeld ?_ (hy := by rintro w' ⟨s0, s1, s2, s3, s4, s5, s6⟩; go_simp; with_reducible rfl)
      refine on_ HT_ 10 (some 37) (bv_ 32 2047) (fun K hK => ?_)
      refine gs_ Try.func51 #[.int .i64 a0, .agg #[.int .i64 a1_0, .int .i64 a1_1, .int .i64 a1_2], .agg #[.int .i64 ((rd_T72 l2 x22_2).f0.f0), .int .i64 ((rd_T72 l2 x22_2).f0.f1), .int .i64 ((rd_T72 l2 x22_2).f0.f2)]] ?_
      with_reducible refine (impl_holds.calls k2 a0 a1_0 a1_1 a1_2 ((rd_T72 l2 x22_2).f0.f0) ((rd_T72 l2 x22_2).f0.f1) ((rd_T72 l2 x22_2).f0.f2) false _ A17.out).mono ?_
      rintro e w38 ⟨rfl, hb⟩
      refine ⟨_, rfl, ?_⟩
      replace BK350 := bb_ BK350 hb
      replace BK353 := bb_ BK353 hb
      replace HB := bt_ HB hb
      try clear hb
      refine hK.out _ _ ⟨cz_ BK353 0, cz_ BK353 1, cz_ BK353 2, cz_ BK353 3, cz_ BK350 0, cz_ BK350 1, cz_ BK350 2⟩ (fun hHeld => ?_)
      clear hK K
      refine nm_ (some 37) ?_
      refine px_ HT_ 11 38 4095 ?_
      refine px_ HT_ 12 39 8191 ?_
      refine px_ HT_ 13 40 16383 ?_
      refine pv_ HT_ 14 (some 41) (bv_ 32 32767) ?_
      refine pv_ HT_ 15 (some 42) (bv_ 32 65535) ?_
      refine pv_ HT_ 16 (some 43) (bv_ 32 131071) ?_
      refine pv_ HT_ 17 (some 44) (bv_ 32 262143) ?_
      refine pv_ HT_ 18 (some 45) (bv_ 32 524287) ?_
      refine pv_ HT_ 19 (some 46) (bv_ 32 1048575) ?_
      refine pv_ HT_ 20 (some 47) (bv_ 32 2097151) ?_
      refine pv_ HT_ 21 (some 48) (bv_ 32 4194303) ?_
      refine pv_ HT_ 22 (some 49) (bv_ 32 8388607) ?_
      refine pv_ HT_ 23 (some 50) (bv_ 32 16777215) ?_
      refine pv_ HT_ 24 (some 51) (bv_ 32 33554431) ?_
      refine pv_ HT_ 25 (some 52) (bv_ 32 67108863) ?_
      refine pv_ HT_ 26 (some 53) (bv_ 32 134217727) ?_
      refine pv_ HT_ 27 (some 54) (bv_ 32 268435455) ?_
      refine pv_ HT_ 28 (some 55) (bv_ 32 536870911) ?_
      refine pv_ HT_ 29 (some 56) (bv_ 32 1073741823) ?_
      refine pv_ HT_ 30 (some 57) (bv_ 32 2147483647) ?_
      refine px_ HT_ 31 58 4294967295 ?_
      refine done_ (done_of HT_.out (by kernel_rfl)) ?_
      try go_wp2
      go_meet
      case rel => exact ⟨_, (true), en_, H', ⟨by have := HJ3.out; have := HK2.out; first | omega | exact Nat.le_refl _⟩, bl_ BK350, bl_ BK353, bw_ HB⟩
     have H' := Aside0.mk H
     clear H
     try go_wp2
     have n0_ : Aside0 (((((w12.setCell ⟨gb353, 0, none⟩ (.int .i64 ((rd_T72 l2 x22_2).f0.f0))).setCell ⟨gb353, 1, none⟩ (.int .i64 ((rd_T72 l2 x22_2).f0.f1))).setCell ⟨gb353, 2, none⟩ (.int .i64 ((rd_T72 l2 x22_2).f0.f2))).setCell ⟨gb353, 3, none⟩ (.int .i64 ((rd_T72 l2 x22_2).f1))).heap[gb350]? = some (.cells #[.int .i64 a1_0, .int .i64 a1_1, .int .i64 a1_2] 31 (0, 0))) := fl_ BK350 NB350_353
     have n1_ : Aside0 (((((w12.setCell ⟨gb353, 0, none⟩ (.int .i64 ((rd_T72 l2 x22_2).f0.f0))).setCell ⟨gb353, 1, none⟩ (.int .i64 ((rd_T72 l2 x22_2).f0.f1))).setCell ⟨gb353, 2, none⟩ (.int .i64 ((rd_T72 l2 x22_2).f0.f2))).setCell ⟨gb353, 3, none⟩ (.int .i64 ((rd_T72 l2 x22_2).f1))).heap[gb353]? = some (.cells #[.int .i64 ((rd_T72 l2 x22_2).f0.f0), .int .i64 ((rd_T72 l2 x22_2).f0.f1), .int .i64 ((rd_T72 l2 x22_2).f0.f2), .int .i64 ((rd_T72 l2 x22_2).f1)] 72 (0, 0))) := bp_ BK353
     have n2_ : Aside0 (Below w.heap.size w ((((w12.setCell ⟨gb353, 0, none⟩ (.int .i64 ((rd_T72 l2 x22_2).f0.f0))).setCell ⟨gb353, 1, none⟩ (.int .i64 ((rd_T72 l2 x22_2).f0.f1))).setCell ⟨gb353, 2, none⟩ (.int .i64 ((rd_T72 l2 x22_2).f0.f2))).setCell ⟨gb353, 3, none⟩ (.int .i64 ((rd_T72 l2 x22_2).f1)))) := bw_ HB
     (try clear BK350)
     (try clear BK353)
     (try clear HB)
     generalize ((((w12.setCell ⟨gb353, 0, none⟩ (.int .i64 ((rd_T72 l2 x22_2).f0.f0))).setCell ⟨gb353, 1, none⟩ (.int .i64 ((rd_T72 l2 x22_2).f0.f1))).setCell ⟨gb353, 2, none⟩ (.int .i64 ((rd_T72 l2 x22_2).f0.f2))).setCell ⟨gb353, 3, none⟩ (.int .i64 ((rd_T72 l2 x22_2).f1))) = w39 at n0_ n1_ n2_ ⊢
     have BK350 := n0_
     have BK353 := n1_
     have HB := n2_
     clear n0_ n1_ n2_
     (try (rw [drewN_self w39]; generalize hq_ : World.drewN w39 _ = w39; replace BK350 := bq_ BK350 hq_; replace BK353 := bq_ BK353 hq_; replace HB := hq_' HB hq_; clear hq_))
     replace BK350 := bd_ BK350
     replace BK353 := bd_ BK353
     replace HB := be_ HB
     refine start_ (n := 32) (S := fun w' => w'.cell? ⟨gb353, 0, none⟩ = some (.int .i64 ((rd_T72 l2 x22_2).f0.f0)) ∧ w'.cell? ⟨gb353, 1, none⟩ = some (.int .i64 ((rd_T72 l2 x22_2).f0.f1)) ∧ w'.cell? ⟨gb353, 2, none⟩ = some (.int .i64 ((rd_T72 l2 x22_2).f0.f2)) ∧ w'.cell? ⟨gb353, 3, none⟩ = some (.int .i64 ((rd_T72 l2 x22_2).f1))) (ds := []) (bv_ 32 0) (by kernel_rfl) rfl rfl ⟨cz_ BK353 0, cz_ BK353 1, cz_ BK353 2, cz_ BK353 3⟩ (fun hHeld => ?_); refine with_tabW impl_isPartition.tab7 impl_isPartition.bits7 (fun HT_ HW_ => ?_)
     generalize w39.drew = w40 at BK350 BK353 HB hHeld ⊢
     refine px_ HT_ 0 27 1 ?_
     refine px_ HT_ 1 28 3 ?_
     refine ta_ HT_ HW_ 2 (some 29) (bv_ 32 7) hHeld ?_ (hy := by rintro w' ⟨s0, s1, s2, s3⟩; go_simp; with_reducible rfl)
     refine on_ HT_ 3 (some 30) (bv_ 32 15) (fun K hK => ?_)
     refine gs_ Try.func63 #[.int .i64 a0, .agg #[.int .i64 ((rd_T72 l2 x22_2).f0.f0), .int .i64 ((rd_T72 l2 x22_2).f0.f1), .int .i64 ((rd_T72 l2 x22_2).f0.f2)]] ?_
     with_reducible refine (impl_IsBall.calls k2 a0 ((rd_T72 l2 x22_2).f0.f0) ((rd_T72 l2 x22_2).f0.f1) ((rd_T72 l2 x22_2).f0.f2) false _ A15.out).mono ?_
     rintro e w41 ⟨rfl, hb⟩
     refine ⟨_, rfl, ?_⟩
     replace BK350 := bb_ BK350 hb
     replace BK353 := bb_ BK353 hb
     replace HB := bt_ HB hb
     try clear hb
     refine hK.out _ _ ⟨cz_ BK353 0, cz_ BK353 1, cz_ BK353 2, cz_ BK353 3⟩ (fun hHeld => ?_)
     clear hK K
     refine nm_ (some 30) ?_
     refine px_ HT_ 4 31 31 ?_
     refine px_ HT_ 5 32 63 ?_
     refine pv_ HT_ 6 (some 33) (bv_ 32 127) ?_
     refine pv_ HT_ 7 (some 34) (bv_ 32 255) ?_
     refine pv_ HT_ 8 (some 35) (bv_ 32 511) ?_
     refine pv_ HT_ 9 (some 36) (bv_ 32 1023) ?_
     refine pv_ HT_ 10 (some 37) (bv_ 32 2047) ?_
     refine pv_ HT_ 11 (some 38) (bv_ 32 4095) ?_
     refine px_ HT_ 12 39 8191 ?_
     refine px_ HT_ 13 40 16383 ?_
     refine pv_ HT_ 14 (some 41) (bv_ 32 32767) ?_
     refine pv_ HT_ 15 (some 42) (bv_ 32 65535) ?_
     refine pv_ HT_ 16 (some 43) (bv_ 32 131071) ?_
     refine pv_ HT_ 17 (some 44) (bv_ 32 262143) ?_
     refine pv_ HT_ 18 (some 45) (bv_ 32 524287) ?_
     refine pv_ HT_ 19 (some 46) (bv_ 32 1048575) ?_
     refine pv_ HT_ 20 (some 47) (bv_ 32 2097151) ?_
     refine pv_ HT_ 21 (some 48) (bv_ 32 4194303) ?_
     refine pv_ HT_ 22 (some 49) (bv_ 32 8388607) ?_
     refine pv_ HT_ 23 (some 50) (bv_ 32 16777215) ?_
     refine pv_ HT_ 24 (some 51) (bv_ 32 33554431) ?_
     refine pv_ HT_ 25 (some 52) (bv_ 32 67108863) ?_
     refine pv_ HT_ 26 (some 53) (bv_ 32 134217727) ?_
     refine pv_ HT_ 27 (some 54) (bv_ 32 268435455) ?_
     refine pv_ HT_ 28 (some 55) (bv_ 32 536870911) ?_
     refine pv_ HT_ 29 (some 56) (bv_ 32 1073741823) ?_
     refine pv_ HT_ 30 (some 57) (bv_ 32 2147483647) ?_
     refine px_ HT_ 31 58 4294967295 ?_
     refine done_ (done_of HT_.out (by kernel_rfl)) ?_
     try go_wp2
     go_meet
     case rel => exact ⟨_, (true), en_, H', ⟨by have := HJ3.out; have := HK2.out; first | omega | exact Nat.le_refl _⟩, bl_ BK350, bl_ BK353, bw_ HB⟩
    clear HC11
    try clear c6
    obtain ⟨kq, x58_10, rfl, HA, HJ10, BK350, BK353, HB⟩ := hcut
    cases kq with
    | zero => exact absurd HA.out (by simp [impl_isPartition.j2])
    | succ kj10 =>
     have H := HA.out
     clear HA
     simp only [impl_isPartition.j2] at H
     replace H := ib_ H
     rcases H with ⟨rfl, H⟩ | ⟨rfl, H⟩
     ·obtain rfl := si_ H
      go_wp2
      go_ret
      exact ⟨es_, (bw_ HB).out⟩
     by_cases c43 : 0 ≤ x22_2
     ·rw [if_pos c43] at H
      have c43b0 := eq_true c43
      have c43b1 : decide (0 ≤ x22_2) = true := decide_eq_true c43
      clear c43
      by_cases c44 : x22_2 ≤ (l2.length : Int)
      ·rw [if_pos c44] at H
       have c44b0 := eq_true c44
       have c44b1 : decide (x22_2 ≤ (l2.length : Int)) = true := decide_eq_true c44
       clear c44
       obtain ⟨y359, hy359⟩ : ∃ y_ : List (S72), y_ = (l2.take (x22_2 : Int).toNat) := ⟨_, rfl⟩
       replace H : (impl_isPartition.l1 kj10 a0 l2 x7_2 l2 (l2.length : Int) x22_2 y359 (y359.length : Int) 0 a1_0 a1_1 a1_2 ((rd_T72 l2 x22_2).f0.f0) ((rd_T72 l2 x22_2).f0.f1) ((rd_T72 l2 x22_2).f0.f2) ((rd_T72 l2 x22_2).f1)) = some r := by first | (rw [hy359]; with_reducible exact H) | (have H2_ := (Option.bind_some _ _).symm.trans H; rw [hy359]; with_reducible exact H2_) | (have H2_ := (Option.bind_some _ _).symm.trans H; with_reducible exact H2_) | with_reducible exact H | (rw [hy359]; exact H) | exact H
       have Ny359 := Aside0.mk hy359
       clear hy359
       have H' := Aside0.mk H
       clear H
       have q45 : (x22_2 : Int) ≤ ((l2.length : Int) : Int) := od_
       obtain ⟨i045, hi045, _, hsz45, _⟩ := info_parts info72
       have hroom45 : l2.length ≤ c2 := HC2.out
       have hC45 : Kd.C k72 _ (some ad352) l2.length l2 := HR2.out
       have hcut45 := cut_to (P := Try.prog) 32 72 .i64 Try.underlying32 hi045 (some ad352) l2.length c2 x22_2 od_ q45 hroom45
       have hr45 := Kd.C_take (m := (x22_2 : Int).toNat) hC45 (by omega)
       have hy45 : y359.length = (x22_2 : Int).toNat := (by rw [Ny359.out, List.length_take]; omega)
       rw [← Ny359.out] at hr45
       rw [← hy45] at hcut45
       have HR362 := Aside0.mk hr45
       have HC362 := Aside0.mk (show y359.length ≤ c2 from by omega)
       clear hr45 hC45 hroom45 hi045 hsz45
       have KY45 := Aside0.mk hy45
       clear hy45
       replace q45 := eq_true q45
       go_wp2
       go_loopg [63] kj10 (fun kq v63 w' => ∃ (x63_4 : Int), v63 = .int .i64 x63_4 ∧ Aside0 (impl_isPartition.l1 kq a0 l2 x7_2 l2 (l2.length : Int) x22_2 y359 (y359.length : Int) x63_4 a1_0 a1_1 a1_2 ((rd_T72 l2 x22_2).f0.f0) ((rd_T72 l2 x22_2).f0.f1) ((rd_T72 l2 x22_2).f0.f2) ((rd_T72 l2 x22_2).f1) = some r) ∧ Aside0 (kq ≤ kj10) ∧ Aside0 (w'.heap[gb350]? = some (.cells #[.int .i64 a1_0, .int .i64 a1_1, .int .i64 a1_2] 31 (0, 0))) ∧ Aside0 (w'.heap[gb353]? = some (.cells #[.int .i64 ((rd_T72 l2 x22_2).f0.f0), .int .i64 ((rd_T72 l2 x22_2).f0.f1), .int .i64 ((rd_T72 l2 x22_2).f0.f2), .int .i64 ((rd_T72 l2 x22_2).f1)] 72 (0, 0))) ∧ Aside0 (Below w.heap.size w w'))
       case atStart => exact ⟨(0), en_, H', ⟨Nat.le_refl _⟩, bl_ BK350, bl_ BK353, bw_ HB⟩
       clear H'
       try clear c2
       try clear c6
       try clear c43
       try clear c43b0
       try clear c43b1
       try clear c44
       try clear c44b0
       try clear c44b1
       try clear q45
       try clear q45
       obtain ⟨x63_4, rfl, HA, HK4, BK350, BK353, HB⟩ := hrel
       cases gk with
       | zero => exact absurd HA.out (by simp [impl_isPartition.l1])
       | succ k4 =>
        have H := HA.out
        clear HA
        simp only [impl_isPartition.l1] at H
        replace H := il_ H
        rcases H with ⟨c46b0, H⟩ | ⟨c46b0, H⟩
        ·replace H := imn_ H
         obtain ⟨c47b0, H⟩ := H
         replace H := iln_ H
         obtain ⟨c48b0, H⟩ := H
         replace H := oc_ H
         obtain ⟨t365, A49, H⟩ := H
         replace H := ib_ H
         rcases H with ⟨rfl, H⟩ | ⟨rfl, H⟩
         ·have H' := Aside0.mk H
          clear H
          have p363 : 0 ≤ (x63_4 : Int) := od_
          have q363 : x63_4 < (y359.length : Int) := od_
          obtain ⟨ad363, e363, hx363_0, hx363_1, hx363_2, hx363_3⟩ := at_T72 HR362.out x63_4 p363 q363
          obtain rfl : ad352 = ad363 := (by injection e363)
          replace hx363_0 := clTr HB.out hx363_0
          replace hx363_1 := clTr HB.out hx363_1
          replace hx363_2 := clTr HB.out hx363_2
          replace hx363_3 := clTr HB.out hx363_3
          replace p363 := eq_true p363
          replace q363 := eq_true q363
          go_wp2_with (first | ((refine gd_ 11 ?_); (try (refine gate_guard (by rfl) ?_; dsimp only)); refine by_ 11 #[.int .i64 0, .int .i64 0, .int .i64 0, .int .i64 0] 72 HB ?_; intro gb364 hg w51 BK364 hb GW364 HB_; have NB350_364 := bm_ BK350 hg; have NB364_350 := bn_ BK350 hg; have NB353_364 := bm_ BK353 hg; have NB364_353 := bn_ BK353 hg; replace BK350 := bb_ BK350 hb; replace BK353 := bb_ BK353 hb; replace HB := HB_; clear hb hg; have hnb52 := NB364_350.out; have hnc52 := NB350_364.out; have hnb53 := NB364_353.out; have hnc53 := NB353_364.out; obtain ⟨hcz54_0, hcz54_1, hcz54_2, hcz54_3, hfz54_0, hfz54_1, hfz54_2, hfz54_3⟩ := ch4_ BK364; have hnb55 := NB353_350.out; have hnc55 := NB350_353.out; obtain ⟨hcz56_0, hcz56_1, hcz56_2, hcz56_3, hfz56_0, hfz56_1, hfz56_2, hfz56_3⟩ := ch4_ BK353) | ((refine gc_ 92 ?_); refine ge_ 72 Try.func92 #[.int .i64 a0, .agg #[.int .i64 ((rd_T72 l2 x22_2).f0.f0), .int .i64 ((rd_T72 l2 x22_2).f0.f1), .int .i64 ((rd_T72 l2 x22_2).f0.f2)], .agg #[.int .i64 ((rd_T72 y359 x63_4).f0.f0), .int .i64 ((rd_T72 y359 x63_4).f0.f1), .int .i64 ((rd_T72 y359 x63_4).f0.f2)]] ?_; (with_reducible refine (impl_apart.calls k4 a0 ((rd_T72 l2 x22_2).f0.f0) ((rd_T72 l2 x22_2).f0.f1) ((rd_T72 l2 x22_2).f0.f2) ((rd_T72 y359 x63_4).f0.f0) ((rd_T72 y359 x63_4).f0.f1) ((rd_T72 y359 x63_4).f0.f2) true _ A49.out).mono ?_); rintro e w57 ⟨rfl, hb⟩; refine ⟨_, rfl, ?_⟩; replace BK350 := fb_ BK350 NB350_364 hb; replace BK353 := fb_ BK353 NB353_364 hb; replace BK364 := Aside0.mk (blk_below (g := gb364) (o := .cells #[.int .i64 ((rd_T72 y359 x63_4).f0.f0), .int .i64 ((rd_T72 y359 x63_4).f0.f1), .int .i64 ((rd_T72 y359 x63_4).f0.f2), .int .i64 ((rd_T72 y359 x63_4).f1)] 72 (0, 0)) (bp_ BK364).out hb); replace HB := bt_ HB hb; (try clear hb)))
          go_roundg k4
          case measure => have := HJ3.out; have := HK2.out; have := HJ10.out; have := HK4.out; omega
          case rel => exact ⟨(wrap64 (x63_4 + 1)), en_, H', ⟨by have := HJ3.out; have := HK2.out; have := HJ10.out; have := HK4.out; omega⟩, bl_ BK350, bl_ BK353, bw_ HB⟩
         obtain rfl := si_ H
         have p363 : 0 ≤ (x63_4 : Int) := od_
         have q363 : x63_4 < (y359.length : Int) := od_
         obtain ⟨ad363, e363, hx363_0, hx363_1, hx363_2, hx363_3⟩ := at_T72 HR362.out x63_4 p363 q363
         obtain rfl : ad352 = ad363 := (by injection e363)
         replace hx363_0 := clTr HB.out hx363_0
         replace hx363_1 := clTr HB.out hx363_1
         replace hx363_2 := clTr HB.out hx363_2
         replace hx363_3 := clTr HB.out hx363_3
         replace p363 := eq_true p363
         replace q363 := eq_true q363
         go_wp2_with (first | ((refine gd_ 11 ?_); (try (refine gate_guard (by rfl) ?_; dsimp only)); refine by_ 11 #[.int .i64 0, .int .i64 0, .int .i64 0, .int .i64 0] 72 HB ?_; intro gb364 hg w58 BK364 hb GW364 HB_; have NB350_364 := bm_ BK350 hg; have NB364_350 := bn_ BK350 hg; have NB353_364 := bm_ BK353 hg; have NB364_353 := bn_ BK353 hg; replace BK350 := bb_ BK350 hb; replace BK353 := bb_ BK353 hb; replace HB := HB_; clear hb hg; have hnb59 := NB364_350.out; have hnc59 := NB350_364.out; have hnb60 := NB364_353.out; have hnc60 := NB353_364.out; obtain ⟨hcz61_0, hcz61_1, hcz61_2, hcz61_3, hfz61_0, hfz61_1, hfz61_2, hfz61_3⟩ := ch4_ BK364; have hnb62 := NB353_350.out; have hnc62 := NB350_353.out; obtain ⟨hcz63_0, hcz63_1, hcz63_2, hcz63_3, hfz63_0, hfz63_1, hfz63_2, hfz63_3⟩ := ch4_ BK353) | ((refine gc_ 92 ?_); refine ge_ 72 Try.func92 #[.int .i64 a0, .agg #[.int .i64 ((rd_T72 l2 x22_2).f0.f0), .int .i64 ((rd_T72 l2 x22_2).f0.f1), .int .i64 ((rd_T72 l2 x22_2).f0.f2)], .agg #[.int .i64 ((rd_T72 y359 x63_4).f0.f0), .int .i64 ((rd_T72 y359 x63_4).f0.f1), .int .i64 ((rd_T72 y359 x63_4).f0.f2)]] ?_; (with_reducible refine (impl_apart.calls k4 a0 ((rd_T72 l2 x22_2).f0.f0) ((rd_T72 l2 x22_2).f0.f1) ((rd_T72 l2 x22_2).f0.f2) ((rd_T72 y359 x63_4).f0.f0) ((rd_T72 y359 x63_4).f0.f1) ((rd_T72 y359 x63_4).f0.f2) false _ A49.out).mono ?_); rintro e w64 ⟨rfl, hb⟩; refine ⟨_, rfl, ?_⟩; replace BK350 := fb_ BK350 NB350_364 hb; replace BK353 := fb_ BK353 NB353_364 hb; replace BK364 := Aside0.mk (blk_below (g := gb364) (o := .cells #[.int .i64 ((rd_T72 y359 x63_4).f0.f0), .int .i64 ((rd_T72 y359 x63_4).f0.f1), .int .i64 ((rd_T72 y359 x63_4).f0.f2), .int .i64 ((rd_T72 y359 x63_4).f1)] 72 (0, 0)) (bp_ BK364).out hb); replace HB := bt_ HB hb; (try clear hb)))
         go_ret
         exact ⟨es_, (bw_ HB).out⟩
        replace H := oc_ H
        obtain ⟨t366, A65, H⟩ := H
        have H' := Aside0.mk H
        clear H
        have hnb66 := NB353_350.out
        have hnc66 := NB350_353.out
        obtain ⟨hcz67_0, hcz67_1, hcz67_2, hcz67_3, hfz67_0, hfz67_1, hfz67_2, hfz67_3⟩ := ch4_ BK353
        obtain ⟨hcz68_0, hcz68_1, hcz68_2, hfz68_0, hfz68_1, hfz68_2⟩ := ch3_ BK350
        go_wp2_with (first | ((refine gc_ 81 ?_); refine ge_ 84 Try.func81 #[.int .i64 a0, .int .i64 (wrap64 ((wrap64 (12 - ((rd_T72 l2 x22_2).f0.f0))) + a1_0))] ?_; (with_reducible refine (impl_power.calls k4 a0 (wrap64 ((wrap64 (12 - ((rd_T72 l2 x22_2).f0.f0))) + a1_0)) t366 _ A65.out).mono ?_); rintro e w' ⟨rfl, ⟨nd, rfl⟩⟩; refine ⟨_, rfl, ?_⟩))
        go_roundg k4
        case measure => have := HJ3.out; have := HK2.out; have := HJ10.out; have := HK4.out; omega
        case rel => exact ⟨(wrap64 (x7_2 + t366)), (wrap64 (x22_2 + 1)), en_, en_, H', ⟨by have := HJ3.out; have := HK2.out; have := HJ10.out; have := HK4.out; omega⟩, bl_ BK350, bw_ HB⟩
      rw [if_neg c44] at H
      exact absurd H (by simp)
     rw [if_neg c43] at H
     exact absurd H (by simp)
   replace H := oc_ H
   obtain ⟨t351, A69, H⟩ := H
   obtain rfl := si_ H
   go_wp2_with (first | ((refine gc_ 81 ?_); refine ge_ 89 Try.func81 #[.int .i64 a0, .int .i64 12] ?_; (with_reducible refine (impl_power.calls k2 a0 12 t351 _ A69.out).mono ?_); rintro e w' ⟨rfl, ⟨nd, rfl⟩⟩; refine ⟨_, rfl, ?_⟩))
   go_ret
   exact ⟨es_, (bw_ HB).out⟩
end Go.Proofs.Ytdfcoebadjhjlaa.QI
