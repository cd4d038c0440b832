import Derived.Test.YtgoeelhiffbjlaaQBx12
namespace Go.Proofs.Ytgoeelhiffbjlaa.QB
set_option maxHeartbeats 8000000
set_option maxRecDepth 100000
open Go.RowKit YtgoeelhiffbjlaaW.PrintWords YtgoeelhiffbjlaaW.PrintLast YtgoeelhiffbjlaaW.PrintMore
attribute [local go_sem] isSome_setCell max2_int min2_int max_two min_two max_three min_three max_four min_four
set_option linter.unusedVariables false
set_option linter.unusedSimpArgs false
def spec_l09List.l0 : Nat → List (S46) → List (S150) → Int → Option (Int)
 | 0, _, _, _ => none
 | k + 1, x1, x2, x7 => if x7 < (x1.length : Int) then (if 0 ≤ x7 then ((spec_l04Is.f k ((rd_T46 x1 x7).f0.f0) ((rd_T46 x1 x7).f0.f1) ((rd_T46 x1 x7).f1.f0) ((rd_T46 x1 x7).f1.f1)).bind fun t119 => (if t119 = true then (spec_l09List.l0 k x1 x2 (wrap64 (x7 + 1))) else (some 1))) else (none)) else (if (x1.length : Int) < 1 then (some 2) else (if (x1.length : Int) > 4 then (some 2) else (if (x2.length : Int) = (wrap64 (2 * (x1.length : Int))) then (some 0) else (some 2))))
def spec_l09List.f (k : Nat) (a0 : Int) (l1 : List (S46)) (l2 : List (S150)) : Option (Int) := (spec_l09Code.f k a0 l2).bind fun t117 => (if t117 = 0 then (spec_l09List.l0 k l1 l2 0) else (some 1))
theorem spec_l09List.calls (k : Nat) (a0 : Int) (A1 : Option Addr) (c1 : Nat) (l1 : List (S46)) (A2 : Option Addr) (c2 : Nat) (l2 : List (S150)) (r : Int) (w : World) (hr1 : Kd.C k46 w A1 l1.length l1) (hc1 : l1.length ≤ c1) (hr2 : Kd.C k150 w A2 l2.length l2) (hc2 : l2.length ≤ c2) (h : spec_l09List.f k a0 l1 l2 = some r) :
  Calls Try.prog 132 #[.int .i64 a0, .slice A1 l1.length c1, .slice A2 l2.length c2] w fun e w' => e = .returned (.int .i64 r) ∧ Below w.heap.size w w' := by
 have hu46 := Try.underlying46
 have HR1 := Aside0.mk hr1
 have HC1 := Aside0.mk hc1
 clear hr1 hc1
 have HR2 := Aside0.mk hr2
 have HC2 := Aside0.mk hc2
 clear hr2 hc2
 have HB := Aside0.mk (Below.refl w.heap.size w)
 unfold spec_l09List.f at h
 have H := h
 clear h
 replace H := oc_ H
 obtain ⟨t117, A4, H⟩ := H
 replace H := ie_ H
 rcases H with ⟨c5b0, c5b1, H⟩ | ⟨c5, c5b0, c5b1, H⟩
 ·have H' := Aside0.mk H
  clear H
  go_enter Try.func132, Try.ntmps132
  go_wp2_with (first | ((refine gc_ 171 ?_); refine ge_ 10 Try.func171 #[.int .i64 a0, .slice A2 l2.length c2] ?_; (with_reducible refine (spec_l09Code.calls k a0 _ _ l2 t117 _ ?side1 ?side2 A4.out).mono ?_); (case side1 => exact ca_ HR2.out); (case side2 => exact HC2.out); rintro e w6 ⟨rfl, hb⟩; refine ⟨_, rfl, ?_⟩; replace HB := bt_ HB hb; (try clear hb)))
  go_loopg [7] k (fun kq v7 w' => ∃ (x7_1 : Int), v7 = .int .i64 x7_1 ∧ Aside0 (spec_l09List.l0 kq l1 l2 x7_1 = some r) ∧ Aside0 (kq ≤ k) ∧ Aside0 (Below w.heap.size w w'))
  case atStart => exact ⟨(0), en_, H', ⟨Nat.le_refl _⟩, bw_ HB⟩
  clear H'
  try clear c1
  try clear c2
  try clear c5
  try clear c5b0
  try clear c5b1
  obtain ⟨x7_1, rfl, HA, HK1, HB⟩ := hrel
  cases gk with
  | zero => exact absurd HA.out (by simp [spec_l09List.l0])
  | succ k1 =>
   have H := HA.out
   clear HA
   simp only [spec_l09List.l0] at H
   replace H := il_ H
   rcases H with ⟨c7b0, H⟩ | ⟨c7b0, H⟩
   ·replace H := imn_ H
    obtain ⟨c8b0, H⟩ := H
    replace H := oc_ H
    obtain ⟨t119, A9, H⟩ := H
    replace H := ib_ H
    rcases H with ⟨rfl, H⟩ | ⟨rfl, H⟩
    ·have H' := Aside0.mk H
     clear H
     have p118 : 0 ≤ (x7_1 : Int) := od_
     have q118 : x7_1 < (l1.length : Int) := od_
     obtain ⟨ad118, e118, hx118_0, hx118_1, hx118_2, hx118_3⟩ := at_T46 HR1.out x7_1 p118 q118
     cases e118
     replace hx118_0 := clTr HB.out hx118_0
     replace hx118_1 := clTr HB.out hx118_1
     replace hx118_2 := clTr HB.out hx118_2
     replace hx118_3 := clTr HB.out hx118_3
     replace p118 := eq_true p118
     replace q118 := eq_true q118
     go_wp2_with (first | ((refine gc_ 101 ?_); refine ge_ 22 Try.func101 #[.agg #[.int .i64 ((rd_T46 l1 x7_1).f0.f0), .int .i64 ((rd_T46 l1 x7_1).f0.f1), .int .i64 ((rd_T46 l1 x7_1).f1.f0), .int .i64 ((rd_T46 l1 x7_1).f1.f1)]] ?_; (with_reducible refine (spec_l04Is.calls k1 ((rd_T46 l1 x7_1).f0.f0) ((rd_T46 l1 x7_1).f0.f1) ((rd_T46 l1 x7_1).f1.f0) ((rd_T46 l1 x7_1).f1.f1) true _ A9.out).mono ?_); rintro e w11 ⟨rfl, hb⟩; refine ⟨_, rfl, ?_⟩; replace HB := bt_ HB hb; (try clear hb)))
     go_roundg k1
     case measure => have := HK1.out; omega
     case rel => exact ⟨(wrap64 (x7_1 + 1)), en_, H', ⟨by have := HK1.out; omega⟩, bw_ HB⟩
    obtain rfl := si_ H
    have p118 : 0 ≤ (x7_1 : Int) := od_
    have q118 : x7_1 < (l1.length : Int) := od_
    obtain ⟨ad118, e118, hx118_0, hx118_1, hx118_2, hx118_3⟩ := at_T46 HR1.out x7_1 p118 q118
    cases e118
    replace hx118_0 := clTr HB.out hx118_0
    replace hx118_1 := clTr HB.out hx118_1
    replace hx118_2 := clTr HB.out hx118_2
    replace hx118_3 := clTr HB.out hx118_3
    replace p118 := eq_true p118
    replace q118 := eq_true q118
    go_wp2_with (first | ((refine gc_ 101 ?_); refine ge_ 22 Try.func101 #[.agg #[.int .i64 ((rd_T46 l1 x7_1).f0.f0), .int .i64 ((rd_T46 l1 x7_1).f0.f1), .int .i64 ((rd_T46 l1 x7_1).f1.f0), .int .i64 ((rd_T46 l1 x7_1).f1.f1)]] ?_; (with_reducible refine (spec_l04Is.calls k1 ((rd_T46 l1 x7_1).f0.f0) ((rd_T46 l1 x7_1).f0.f1) ((rd_T46 l1 x7_1).f1.f0) ((rd_T46 l1 x7_1).f1.f1) false _ A9.out).mono ?_); rintro e w12 ⟨rfl, hb⟩; refine ⟨_, rfl, ?_⟩; replace HB := bt_ HB hb; (try clear hb)))
    go_ret
    exact ⟨es_, (bw_ HB).out⟩
   by_cases c13 : (l1.length : Int) < 1
   ·rw [if_pos c13] at H
    have c13b0 : decide ((l1.length : Int) < 1) = true := decide_eq_true c13
    have c13b1 : decide (l1.length < 1) = true := decide_eq_true (by omega)
    clear c13
    obtain rfl := si_ H
    go_wp2
    go_ret
    exact ⟨es_, (bw_ HB).out⟩
   rw [if_neg c13] at H
   have c13b0 : decide ((l1.length : Int) < 1) = false := decide_eq_false c13
   have c13b1 : decide (l1.length < 1) = false := decide_eq_false (by omega)
   clear c13
   by_cases c14 : (l1.length : Int) > 4
   ·rw [if_pos c14] at H
    have c14b0 : decide (4 < (l1.length : Int)) = true := decide_eq_true c14
    have c14b1 : decide (4 < l1.length) = true := decide_eq_true (by omega)
    clear c14
    obtain rfl := si_ H
    go_wp2
    go_ret
    exact ⟨es_, (bw_ HB).out⟩
   rw [if_neg c14] at H
   have c14b0 : decide (4 < (l1.length : Int)) = false := decide_eq_false c14
   have c14b1 : decide (4 < l1.length) = false := decide_eq_false (by omega)
   clear c14
   replace H := ie_ H
   rcases H with ⟨c15b0, c15b1, H⟩ | ⟨c15, c15b0, c15b1, H⟩
   ·obtain rfl := si_ H
    go_wp2
    go_ret
    exact ⟨es_, (bw_ HB).out⟩
   obtain rfl := si_ H
   go_wp2
   go_ret
   exact ⟨es_, (bw_ HB).out⟩
 obtain rfl := si_ H
 go_enter Try.func132, Try.ntmps132
 go_wp2_with (first | ((refine gc_ 171 ?_); refine ge_ 10 Try.func171 #[.int .i64 a0, .slice A2 l2.length c2] ?_; (with_reducible refine (spec_l09Code.calls k a0 _ _ l2 t117 _ ?side1 ?side2 A4.out).mono ?_); (case side1 => exact ca_ HR2.out); (case side2 => exact HC2.out); rintro e w16 ⟨rfl, hb⟩; refine ⟨_, rfl, ?_⟩; replace HB := bt_ HB hb; (try clear hb)))
 go_ret
 exact ⟨es_, (bw_ HB).out⟩
def spec_l01Gcd.l0 : Nat → Int → Int → Option (Int)
 | 0, _, _ => none
 | k + 1, x0, x1 => if x1 = 0 then (some (mx x0 (wrap64 (-x0)))) else (spec_l01Gcd.l0 k x1 (Int.tmod x0 x1))
def spec_l01Gcd.f (k : Nat) (a0 a1 : Int) : Option (Int) := spec_l01Gcd.l0 k a0 a1
theorem spec_l01Gcd.calls (k : Nat) (a0 a1 r : Int) (w : World) (h : spec_l01Gcd.f k a0 a1 = some r) :
  Calls Try.prog 167 #[.int .i64 a0, .int .i64 a1] w fun e w' => e = .returned (.int .i64 r) ∧ Below w.heap.size w w' := by
 have HB := Aside0.mk (Below.refl w.heap.size w)
 unfold spec_l01Gcd.f at h
 have H := h
 clear h
 have H' := Aside0.mk H
 clear H
 go_enter Try.func167, Try.ntmps167
 go_wp2
 go_loopg [0, 1] k (fun kq v0 v1 w' => ∃ (x0_1 : Int) (x1_1 : Int), v0 = .int .i64 x0_1 ∧ v1 = .int .i64 x1_1 ∧ Aside0 (spec_l01Gcd.l0 kq x0_1 x1_1 = some r) ∧ Aside0 (kq ≤ k) ∧ Aside0 (Below w.heap.size w w'))
 case atStart => exact ⟨(a0), (a1), en_, en_, H', ⟨Nat.le_refl _⟩, bw_ HB⟩
 clear H'
 obtain ⟨x0_1, x1_1, rfl, rfl, HA, HK1, HB⟩ := hrel
 cases gk with
 | zero => exact absurd HA.out (by simp [spec_l01Gcd.l0])
 | succ k1 =>
  have H := HA.out
  clear HA
  simp only [spec_l01Gcd.l0] at H
  replace H := ie_ H
  rcases H with ⟨c3b0, c3b1, H⟩ | ⟨c3, c3b0, c3b1, H⟩
  ·obtain ⟨ji4, hji4⟩ : ∃ j_ : Int, (mx x0_1 (wrap64 (-x0_1))) = j_ := ⟨_, rfl⟩
   replace H : (some ji4) = some r := by first | (rw [hji4] at H; exact H) | (simp only [hji4] at H ⊢; exact H)
   have hji4_k : (if x0_1 < (IntKind.i64.wrap (-x0_1)) then (IntKind.i64.wrap (-x0_1)) else x0_1) = ji4 := by simp only [i64_w]; exact hji4
   have hji4_ : (if x0_1 < (wrap64 (-x0_1)) then (wrap64 (-x0_1)) else x0_1) = ji4 := hji4
   obtain rfl := si_ H
   go_wp2
   go_ret
   exact ⟨by first | rfl | (simp [errW_none, errW_some] <;> rfl) | (simp only [← hji4]; first | rfl | (simp [errW_none, errW_some] <;> rfl)) | (simp [*, errW_none, errW_some] <;> rfl), (bw_ HB).out⟩
  have H' := Aside0.mk H
  clear H
  go_wp2
  go_roundg k1
  case measure => have := HK1.out; omega
  case rel => exact ⟨(x1_1), (Int.tmod x0_1 x1_1), en_, en_, H', ⟨by have := HK1.out; omega⟩, bw_ HB⟩
def spec_l01End.f (k : Nat) (a0_0 a0_1 : Int) : Option (Bool) := if a0_1 = 0 then (some (a0_0 == 1)) else ((spec_l01In.f a0_1 1 1000000).bind fun t121 => (if t121 = true then ((spec_l01In.f a0_0 (-1000000) 1000000).bind fun t122 => (if t122 = true then ((spec_l01Gcd.f k a0_0 a0_1).bind fun t123 => (some (t123 == 1))) else (some false))) else (some false)))
theorem spec_l01End.calls (k : Nat) (a0_0 a0_1 : Int) (r : Bool) (w : World) (h : spec_l01End.f k a0_0 a0_1 = some r) :
  Calls Try.prog 133 #[.agg #[.int .i64 a0_0, .int .i64 a0_1]] w fun e w' => e = .returned (.bool r) ∧ Below w.heap.size w w' := by
 have hu74 := Try.underlying74
 have HB := Aside0.mk (Below.refl w.heap.size w)
 unfold spec_l01End.f at h
 have H := h
 clear h
 replace H := ie_ H
 rcases H with ⟨c2b0, c2b1, H⟩ | ⟨c2, c2b0, c2b1, H⟩
 ·obtain rfl := si_ H
  go_enter Try.func133, Try.ntmps133
  go_wp2_with (first | ((refine gd_ 1 ?_); refine by_ 1 #[.int .i64 a0_0, .int .i64 a0_1] 74 HB ?_; intro gb120 hg w3 BK120 hb GW120 HB_; replace HB := HB_; clear hb hg; obtain ⟨hcz4_0, hcz4_1, hfz4_0, hfz4_1⟩ := ch2_ BK120))
  go_ret
  exact ⟨es_, (bw_ HB).out⟩
 replace H := oc_ H
 obtain ⟨t121, A5, H⟩ := H
 replace H := ib_ H
 rcases H with ⟨rfl, H⟩ | ⟨rfl, H⟩
 ·replace H := oc_ H
  obtain ⟨t122, A7, H⟩ := H
  replace H := ib_ H
  rcases H with ⟨rfl, H⟩ | ⟨rfl, H⟩
  ·replace H := oc_ H
   obtain ⟨t123, A9, H⟩ := H
   obtain rfl := si_ H
   go_enter Try.func133, Try.ntmps133
   go_wp2_with (first | ((refine gd_ 1 ?_); refine by_ 1 #[.int .i64 a0_0, .int .i64 a0_1] 74 HB ?_; intro gb120 hg w10 BK120 hb GW120 HB_; replace HB := HB_; clear hb hg; obtain ⟨hcz11_0, hcz11_1, hfz11_0, hfz11_1⟩ := ch2_ BK120) | ((refine gc_ 109 ?_); refine ge_ 11 Try.func109 #[.int .i64 a0_1, .int .i64 1, .int .i64 1000000] ?_; (with_reducible refine (spec_l01In.calls a0_1 1 1000000 true _ A5.out).mono ?_); rintro e w' ⟨rfl, ⟨nd, rfl⟩⟩; refine ⟨_, rfl, ?_⟩) | (go_at_call 109; (with_reducible refine (spec_l01In.calls a0_0 (-1000000) 1000000 true _ A7.out).mono ?_); rintro e w' ⟨rfl, ⟨nd, rfl⟩⟩) | (go_at_call 167; (with_reducible refine (spec_l01Gcd.calls k a0_0 a0_1 t123 _ A9.out).mono ?_); rintro e w12 ⟨rfl, hb⟩; replace BK120 := bb_ BK120 hb; replace HB := bt_ HB hb; (try clear hb)))
   go_ret
   exact ⟨es_, (bw_ HB).out⟩
  obtain rfl := si_ H
  go_enter Try.func133, Try.ntmps133
  go_wp2_with (first | ((refine gd_ 1 ?_); refine by_ 1 #[.int .i64 a0_0, .int .i64 a0_1] 74 HB ?_; intro gb120 hg w13 BK120 hb GW120 HB_; replace HB := HB_; clear hb hg; obtain ⟨hcz14_0, hcz14_1, hfz14_0, hfz14_1⟩ := ch2_ BK120) | ((refine gc_ 109 ?_); refine ge_ 11 Try.func109 #[.int .i64 a0_1, .int .i64 1, .int .i64 1000000] ?_; (with_reducible refine (spec_l01In.calls a0_1 1 1000000 true _ A5.out).mono ?_); rintro e w' ⟨rfl, ⟨nd, rfl⟩⟩; refine ⟨_, rfl, ?_⟩) | (go_at_call 109; (with_reducible refine (spec_l01In.calls a0_0 (-1000000) 1000000 false _ A7.out).mono ?_); rintro e w' ⟨rfl, ⟨nd, rfl⟩⟩))
  go_ret
  exact ⟨es_, (bw_ HB).out⟩
 obtain rfl := si_ H
 go_enter Try.func133, Try.ntmps133
 go_wp2_with (first | ((refine gd_ 1 ?_); refine by_ 1 #[.int .i64 a0_0, .int .i64 a0_1] 74 HB ?_; intro gb120 hg w15 BK120 hb GW120 HB_; replace HB := HB_; clear hb hg; obtain ⟨hcz16_0, hcz16_1, hfz16_0, hfz16_1⟩ := ch2_ BK120) | ((refine gc_ 109 ?_); refine ge_ 11 Try.func109 #[.int .i64 a0_1, .int .i64 1, .int .i64 1000000] ?_; (with_reducible refine (spec_l01In.calls a0_1 1 1000000 false _ A5.out).mono ?_); rintro e w' ⟨rfl, ⟨nd, rfl⟩⟩; refine ⟨_, rfl, ?_⟩))
 go_ret
 exact ⟨es_, (bw_ HB).out⟩
def spec_l01Val.l0 : Nat → Int → Int → Int → Option (Int)
 | 0, _, _, _ => none
 | k + 1, x0, x1, x5 => if x0 = 0 then (none) else (if (Int.tmod x1 x0) = 0 then (spec_l01Val.l0 k x0 (wrap64 (Int.tdiv x1 x0)) (wrap64 (x5 + 1))) else (some x5))
def spec_l01Val.f (k : Nat) (a0 a1 : Int) : Option (Int) := spec_l01Val.l0 k a0 a1 0
theorem spec_l01Val.calls (k : Nat) (a0 a1 r : Int) (w : World) (h : spec_l01Val.f k a0 a1 = some r) :
  Calls Try.prog 193 #[.int .i64 a0, .int .i64 a1] w fun e w' => e = .returned (.int .i64 r) ∧ Drawn0 w w' := by
 unfold spec_l01Val.f at h
 have H := h
 clear h
 have H' := Aside0.mk H
 clear H
 go_enter Try.func193, Try.ntmps193
 go_wp2
 go_loopg [1, 5] k (fun kq v1 v5 w' => ∃ (x1_1 : Int) (x5_1 : Int), v1 = .int .i64 x1_1 ∧ v5 = .int .i64 x5_1 ∧ Aside0 (spec_l01Val.l0 kq a0 x1_1 x5_1 = some r) ∧ Aside0 (kq ≤ k) ∧ Drawn0 w w')
 case atStart => exact ⟨(a1), (0), en_, en_, H', ⟨Nat.le_refl _⟩, de_⟩
 clear H'
 obtain ⟨x1_1, x5_1, rfl, rfl, HA, HK1, ⟨m1, rfl⟩⟩ := hrel
 cases gk with
 | zero => exact absurd HA.out (by simp [spec_l01Val.l0])
 | succ k1 =>
  have H := HA.out
  clear HA
  simp only [spec_l01Val.l0] at H
  replace H := ief_ H
  obtain ⟨c3, c3b0, c3b1, H⟩ := H
  replace H := ie_ H
  rcases H with ⟨c4b0, c4b1, H⟩ | ⟨c4, c4b0, c4b1, H⟩
  ·have H' := Aside0.mk H
   clear H
   go_wp2
   go_roundg k1
   case measure => have := HK1.out; omega
   case rel => exact ⟨(wrap64 (Int.tdiv x1_1 a0)), (wrap64 (x5_1 + 1)), en_, en_, H', ⟨by have := HK1.out; omega⟩, de_⟩
  obtain rfl := si_ H
  go_wp2
  go_ret
  exact ⟨en_, de_⟩
def spec_l01MulMod.f (a0 a1 a2 : Int) : Option (Int) := if a2 = 0 then (none) else (some (Int.tmod (wrap64 ((Int.tmod (wrap64 ((Int.tmod (wrap64 ((Int.tmod (wrap64 ((Int.tmod a0 a2) + a2)) a2) * (wrap64 (Int.tdiv (Int.tmod (wrap64 ((Int.tmod a1 a2) + a2)) a2) 1000000)))) a2) * 1000000)) a2) + (Int.tmod (wrap64 ((Int.tmod (wrap64 ((Int.tmod a0 a2) + a2)) a2) * (Int.tmod (Int.tmod (wrap64 ((Int.tmod a1 a2) + a2)) a2) 1000000))) a2))) a2))
theorem spec_l01MulMod.calls (a0 a1 a2 r : Int) (w : World) (h : spec_l01MulMod.f a0 a1 a2 = some r) :
  Calls Try.prog 194 #[.int .i64 a0, .int .i64 a1, .int .i64 a2] w fun e w' => e = .returned (.int .i64 r) ∧ Drawn0 w w' := by
 unfold spec_l01MulMod.f at h
 have H := h
 clear h
 replace H := ief_ H
 obtain ⟨c4, c4b0, c4b1, H⟩ := H
 obtain rfl := si_ H
 go_enter Try.func194, Try.ntmps194
 go_wp2
 repeat (go_quiet (fail); try go_wp2)
 go_ret
 exact ⟨en_, de_⟩
def spec_l01InvMod.l0 : Nat → Int → Int → Int → Int → Int → Option (Int)
 | 0, _, _, _, _, _ => none
 | k + 1, x1, x5, x6, x7, x8 => if x6 = 0 then (if x1 = 0 then (none) else (some (Int.tmod (wrap64 ((Int.tmod x7 x1) + x1)) x1))) else (spec_l01InvMod.l0 k x1 x6 (wrap64 (x5 - (wrap64 ((wrap64 (Int.tdiv x5 x6)) * x6)))) x8 (wrap64 (x7 - (wrap64 ((wrap64 (Int.tdiv x5 x6)) * x8)))))
def spec_l01InvMod.f (k : Nat) (a0 a1 : Int) : Option (Int) := if a1 = 0 then (none) else (spec_l01InvMod.l0 k a1 (Int.tmod (wrap64 ((Int.tmod a0 a1) + a1)) a1) a1 1 0)
theorem spec_l01InvMod.calls (k : Nat) (a0 a1 r : Int) (w : World) (h : spec_l01InvMod.f k a0 a1 = some r) :
  Calls Try.prog 195 #[.int .i64 a0, .int .i64 a1] w fun e w' => e = .returned (.int .i64 r) ∧ Drawn0 w w' := by
 unfold spec_l01InvMod.f at h
 have H := h
 clear h
 replace H := ief_ H
 obtain ⟨c3, c3b0, c3b1, H⟩ := H
 have H' := Aside0.mk H
 clear H
 go_enter Try.func195, Try.ntmps195
 go_wp2
 go_loopg [5, 6, 7, 8] k (fun kq v5 v6 v7 v8 w' => ∃ (x5_1 : Int) (x6_1 : Int) (x7_1 : Int) (x8_1 : Int), v5 = .int .i64 x5_1 ∧ v6 = .int .i64 x6_1 ∧ v7 = .int .i64 x7_1 ∧ v8 = .int .i64 x8_1 ∧ Aside0 (spec_l01InvMod.l0 kq a1 x5_1 x6_1 x7_1 x8_1 = some r) ∧ Aside0 (kq ≤ k) ∧ Drawn0 w w')
 case atStart => exact ⟨(Int.tmod (wrap64 ((Int.tmod a0 a1) + a1)) a1), (a1), (1), (0), en_, en_, en_, en_, H', ⟨Nat.le_refl _⟩, de_⟩
 clear H'
 try clear c3
 try clear c3b0
 try clear c3b1
 obtain ⟨x5_1, x6_1, x7_1, x8_1, rfl, rfl, rfl, rfl, HA, HK1, ⟨m1, rfl⟩⟩ := hrel
 cases gk with
 | zero => exact absurd HA.out (by simp [spec_l01InvMod.l0])
 | succ k1 =>
  have H := HA.out
  clear HA
  simp only [spec_l01InvMod.l0] at H
  replace H := ie_ H
  rcases H with ⟨c4b0, c4b1, H⟩ | ⟨c4, c4b0, c4b1, H⟩
  ·replace H := ief_ H
   obtain ⟨c5, c5b0, c5b1, H⟩ := H
   obtain rfl := si_ H
   go_wp2
   go_ret
   exact ⟨en_, de_⟩
  have H' := Aside0.mk H
  clear H
  go_wp2
  go_roundg k1
  case measure => have := HK1.out; omega
  case rel => exact ⟨(x6_1), (wrap64 (x5_1 - (wrap64 ((wrap64 (Int.tdiv x5_1 x6_1)) * x6_1)))), (x8_1), (wrap64 (x7_1 - (wrap64 ((wrap64 (Int.tdiv x5_1 x6_1)) * x8_1)))), en_, en_, en_, en_, H', ⟨by have := HK1.out; omega⟩, de_⟩
end Go.Proofs.Ytgoeelhiffbjlaa.QB
