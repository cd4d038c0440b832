import Derived.Test.YtbilincmcnnonaaQSx8
import Derived.Test.YtbilincmcnnonaaQSx22
namespace Go.Proofs.Ytbilincmcnnonaa.QS
set_option maxHeartbeats 8000000
set_option maxRecDepth 100000
open Go.RowKit Go.Proofs.YtbilincmcnnonaaW.PrintWords Go.Proofs.YtbilincmcnnonaaW.PrintLast Go.Proofs.YtbilincmcnnonaaW.PrintMore
attribute [local go_sem] isSome_setCell max2_int min2_int max_two min_two max_three min_three max_four min_four
set_option linter.unusedVariables false
set_option linter.unusedSimpArgs false

/-! ### spec_l09Ready: function 113 -/
def spec_l09Ready.f (k : Nat) (a0 : Int) (l1 : List (S26)) (l2 : List (S59)) : Option (Int) := (spec_l09Free.f k a0 l1 l2).bind fun bt182 => (if bt182.2 = 0 then (if bt182.1 = true then (some bt182.2) else (some 5)) else (some bt182.2))
theorem spec_l09Ready.calls (k : Nat) (a0 : Int) (A1 : Option Addr) (c1 : Nat) (l1 : List (S26)) (A2 : Option Addr) (c2 : Nat) (l2 : List (S59)) (r : Int) (w : World) (hr1 : Kd.C k26 w A1 l1.length l1) (hc1 : l1.length ≤ c1) (hr2 : Kd.C k59 w A2 l2.length l2) (hc2 : l2.length ≤ c2) (h : spec_l09Ready.f k a0 l1 l2 = some r) :
  Calls Try.prog 113 #[.int .i64 a0, .slice A1 l1.length c1, .slice A2 l2.length c2] w fun e w' => e = .returned (.int .i64 r) ∧ Below w.heap.size w w' := by
 have HR1 := Aside0.mk hr1
 have HC1 := Aside0.mk hc1
 clear hr1 hc1
 have HR2 := Aside0.mk hr2
 have HC2 := Aside0.mk hc2
 clear hr2 hc2
 have HB := Aside0.mk (Below.refl w.heap.size w)
 have H : ((spec_l09Free.f k a0 l1 l2).bind fun bt182 => (if bt182.2 = 0 then (if bt182.1 = true then (some bt182.2) else (some 5)) else (some bt182.2))) = some r := h
 clear h
 replace H := ob_ H
 obtain ⟨⟨t182, t183⟩, A40, H⟩ := H
 have A4 := Aside0.mk A40
 clear A40
 by_cases c5 : t183 = 0
 ·rw [if_pos c5] at H
  have c5b0 : (t183 == 0) = true := beq_iff_eq.mpr c5
  have c5b1 : (t183 != 0) = false := bne_eq_false_iff_eq.mpr c5
  clear c5
  by_cases c6 : t182 = true
  ·subst c6
   have H1 : (some t183) = some r := by rw [if_pos rfl] at H; exact H
   clear H
   have H := H1
   clear H1
   obtain rfl := si_ H
   go_enter Try.func113, Try.ntmps113
   go_wp2_with (first | (refine ge_ 13 Try.func162 #[.int .i64 a0, .slice A1 l1.length c1, .slice A2 l2.length c2] ?_; (with_reducible refine (spec_l09Free.calls k a0 _ _ l1 _ _ l2 true t183 _ ?side1 ?side2 ?side3 ?side4 A4.out).mono ?_); (case side1 => exact ca_ HR1.out); (case side2 => exact HC1.out); (case side3 => exact ca_ HR2.out); (case side4 => exact HC2.out); rintro e w7 ⟨rfl, hb⟩; refine ⟨_, rfl, ?_⟩; replace HB := bt_ HB hb; (try clear hb); (try clear hb2); (try clear hk); (try clear hi)))
   go_ret
   exact ⟨es_, (bw_ HB).out⟩
  ·replace c6 := Bool.eq_false_iff.mpr c6
   subst c6
   have H1 : (some 5) = some r := by rw [if_neg (show ¬ (false = true) by decide)] at H; exact H
   clear H
   have H := H1
   clear H1
   obtain rfl := si_ H
   go_enter Try.func113, Try.ntmps113
   go_wp2_with (first | (refine ge_ 13 Try.func162 #[.int .i64 a0, .slice A1 l1.length c1, .slice A2 l2.length c2] ?_; (with_reducible refine (spec_l09Free.calls k a0 _ _ l1 _ _ l2 false t183 _ ?side1 ?side2 ?side3 ?side4 A4.out).mono ?_); (case side1 => exact ca_ HR1.out); (case side2 => exact HC1.out); (case side3 => exact ca_ HR2.out); (case side4 => exact HC2.out); rintro e w8 ⟨rfl, hb⟩; refine ⟨_, rfl, ?_⟩; replace HB := bt_ HB hb; (try clear hb); (try clear hb2); (try clear hk); (try clear hi)))
   go_ret
   exact ⟨es_, (bw_ HB).out⟩
 ·rw [if_neg c5] at H
  have c5b0 : (t183 == 0) = false := beq_eq_false_iff_ne.mpr c5
  have c5b1 : (t183 != 0) = true := bne_iff_ne.mpr c5
  obtain rfl := si_ H
  go_enter Try.func113, Try.ntmps113
  go_wp2_with (first | (refine ge_ 13 Try.func162 #[.int .i64 a0, .slice A1 l1.length c1, .slice A2 l2.length c2] ?_; (with_reducible refine (spec_l09Free.calls k a0 _ _ l1 _ _ l2 t182 t183 _ ?side1 ?side2 ?side3 ?side4 A4.out).mono ?_); (case side1 => exact ca_ HR1.out); (case side2 => exact HC1.out); (case side3 => exact ca_ HR2.out); (case side4 => exact HC2.out); rintro e w9 ⟨rfl, hb⟩; refine ⟨_, rfl, ?_⟩; replace HB := bt_ HB hb; (try clear hb); (try clear hb2); (try clear hk); (try clear hi)))
  go_ret
  exact ⟨es_, (bw_ HB).out⟩
/-! ### spec_l09Short: function 114 -/
def spec_l09Short.l0 : Nat → List Int → Int → Option (Bool)
 | 0, _, _ => none
 | k + 1, x0, x3 => if x3 < (x0.length : Int) then (if 0 ≤ x3 then (if 0 ≤ (wrap64 (x3 - 1)) then (if (wrap64 (x3 - 1)) < (x0.length : Int) then (if (rd x0 x3) = (wrap64 (-(rd x0 (wrap64 (x3 - 1))))) then (some false) else (spec_l09Short.l0 k x0 (wrap64 (x3 + 1)))) else (none)) else (none)) else (none)) else (some true)
def spec_l09Short.f (k : Nat) (l0 : List Int) : Option (Bool) := spec_l09Short.l0 k l0 1
theorem spec_l09Short.calls (k : Nat) (A0 : Option Addr) (c0 : Nat) (l0 : List Int) (r : Bool) (w : World) (hr0 : Kd.C (Kd.int .i64) w A0 l0.length l0) (hc0 : l0.length ≤ c0) (h : spec_l09Short.f k l0 = some r) :
  Calls Try.prog 114 #[.slice A0 l0.length c0] w fun e w' => e = .returned (.bool r) ∧ Drawn0 w w' := by
 have HR0 := Aside0.mk hr0
 have HC0 := Aside0.mk hc0
 clear hr0 hc0
 have H : (spec_l09Short.l0 k l0 1) = some r := h
 clear h
 have H' := Aside0.mk H
 clear H
 go_enter Try.func114, Try.ntmps114
 go_wp2
 repeat (go_quiet (fail); try go_wp2)
 go_loopg [3] k (fun kq v3 w' => ∃ (x3_1 : Int), v3 = .int .i64 x3_1 ∧ Aside0 (spec_l09Short.l0 kq l0 x3_1 = some r) ∧ Aside0 (kq ≤ k) ∧ Drawn0 w w')
 case atStart => exact ⟨(1), en_, H', ⟨Nat.le_refl _⟩, de_⟩
 case round =>
  clear H'
  try clear c1
  obtain ⟨x3_1, rfl, HA, HK1, ⟨m1, rfl⟩⟩ := hrel
  cases gk with
  | zero => exact absurd HA.out (by simp [spec_l09Short.l0])
  | succ k1 =>
   have H := HA.out
   clear HA
   simp only [spec_l09Short.l0] at H
   by_cases c2 : x3_1 < (l0.length : Int)
   ·rw [if_pos c2] at H
    have c2b0 : decide (x3_1 < (l0.length : Int)) = true := decide_eq_true c2
    clear c2
    by_cases c3 : 0 ≤ x3_1
    ·rw [if_pos c3] at H
     have c3b0 : decide (0 ≤ x3_1) = true := decide_eq_true c3
     clear c3
     obtain ⟨ji4, hji4⟩ : ∃ j_ : Int, (wrap64 (x3_1 - 1)) = j_ := ⟨_, rfl⟩
     replace H : (if 0 ≤ (ji4) then (if (ji4) < (l0.length : Int) then (if (rd l0 x3_1) = (wrap64 (-(rd l0 (ji4)))) then (some false) else (spec_l09Short.l0 k1 l0 (wrap64 (x3_1 + 1)))) else (none)) else (none)) = some r := by first | (rw [hji4] at H; exact H) | (simp only [hji4] at H ⊢; exact H)
     have hji4w : (IntKind.i64.wrap (x3_1 - 1)) = ji4 := (i64_w _).trans hji4
     by_cases c5 : 0 ≤ (ji4)
     ·rw [if_pos c5] at H
      have c5b0 : decide (0 ≤ (ji4)) = true := decide_eq_true c5
      clear c5
      by_cases c6 : (ji4) < (l0.length : Int)
      ·rw [if_pos c6] at H
       have c6b0 : decide ((ji4) < (l0.length : Int)) = true := decide_eq_true c6
       clear c6
       by_cases c7 : (rd l0 x3_1) = (wrap64 (-(rd l0 (ji4))))
       ·rw [if_pos c7] at H
        have c7b0 : ((rd l0 x3_1) == (wrap64 (-(rd l0 (ji4))))) = true := beq_iff_eq.mpr c7
        have c7b1 : ((rd l0 x3_1) != (wrap64 (-(rd l0 (ji4))))) = false := bne_eq_false_iff_eq.mpr c7
        clear c7
        obtain rfl := si_ H
        have p184 : 0 ≤ (x3_1 : Int) := od_
        have q184 : x3_1 < (l0.length : Int) := od_
        obtain ⟨ad184, e184, hx184_0⟩ := Kd.at_int HR0.out x3_1 p184 q184
        cases e184
        replace p184 := eq_true p184
        replace q184 := eq_true q184
        have p185 : 0 ≤ ((ji4) : Int) := od_
        have q185 : (ji4) < (l0.length : Int) := od_
        obtain ⟨ad185, e185, hx185_0⟩ := Kd.at_int HR0.out (ji4) p185 q185
        obtain rfl : ad184 = ad185 := (by injection e185)
        replace p185 := eq_true p185
        replace q185 := eq_true q185
        go_wp2
        repeat (go_quiet (fail); try go_wp2)
        go_ret
        exact ⟨by first | rfl | (simp; done) | (simp only [← hji4] <;> (first | rfl | simp)) | (simp [*]; done), de_⟩
       ·rw [if_neg c7] at H
        have c7b0 : ((rd l0 x3_1) == (wrap64 (-(rd l0 (ji4))))) = false := beq_eq_false_iff_ne.mpr c7
        have c7b1 : ((rd l0 x3_1) != (wrap64 (-(rd l0 (ji4))))) = true := bne_iff_ne.mpr c7
        have H' := Aside0.mk H
        clear H
        have p184 : 0 ≤ (x3_1 : Int) := od_
        have q184 : x3_1 < (l0.length : Int) := od_
        obtain ⟨ad184, e184, hx184_0⟩ := Kd.at_int HR0.out x3_1 p184 q184
        cases e184
        replace p184 := eq_true p184
        replace q184 := eq_true q184
        have p185 : 0 ≤ ((ji4) : Int) := od_
        have q185 : (ji4) < (l0.length : Int) := od_
        obtain ⟨ad185, e185, hx185_0⟩ := Kd.at_int HR0.out (ji4) p185 q185
        obtain rfl : ad184 = ad185 := (by injection e185)
        replace p185 := eq_true p185
        replace q185 := eq_true q185
        go_wp2
        repeat (go_quiet (fail); try go_wp2)
        go_roundg k1
        case measure => have := HK1.out; omega
        case rel => exact ⟨(wrap64 (x3_1 + 1)), en_, H', ⟨by have := HK1.out; omega⟩, de_⟩
      ·rw [if_neg c6] at H
       exact absurd H (by simp)
     ·rw [if_neg c5] at H
      exact absurd H (by simp)
    ·rw [if_neg c3] at H
     exact absurd H (by simp)
   ·rw [if_neg c2] at H
    have c2b0 : decide (x3_1 < (l0.length : Int)) = false := decide_eq_false c2
    clear c2
    obtain rfl := si_ H
    go_wp2
    repeat (go_quiet (fail); try go_wp2)
    go_ret
    exact ⟨en_, de_⟩
/-! ### spec_l09Of: function 115 -/
def spec_l09Of.f (l0 : List (S59)) (a1 : Int) : Option (Int × Int × Int × Bool) := if a1 > 0 then (if 0 ≤ (wrap64 ((wrap64 (2 * a1)) - 1)) then (if (wrap64 ((wrap64 (2 * a1)) - 1)) < (l0.length : Int) then (some ((rd_T59 l0 (wrap64 ((wrap64 (2 * a1)) - 1))).f0.f0, (rd_T59 l0 (wrap64 ((wrap64 (2 * a1)) - 1))).f0.f1, (rd_T59 l0 (wrap64 ((wrap64 (2 * a1)) - 1))).f0.f2, (rd_T59 l0 (wrap64 ((wrap64 (2 * a1)) - 1))).f1)) else (none)) else (none)) else (if 0 ≤ (wrap64 ((wrap64 ((-2) * a1)) - 2)) then (if (wrap64 ((wrap64 ((-2) * a1)) - 2)) < (l0.length : Int) then (some ((rd_T59 l0 (wrap64 ((wrap64 ((-2) * a1)) - 2))).f0.f0, (rd_T59 l0 (wrap64 ((wrap64 ((-2) * a1)) - 2))).f0.f1, (rd_T59 l0 (wrap64 ((wrap64 ((-2) * a1)) - 2))).f0.f2, (rd_T59 l0 (wrap64 ((wrap64 ((-2) * a1)) - 2))).f1)) else (none)) else (none))
theorem spec_l09Of.calls (A0 : Option Addr) (c0 : Nat) (l0 : List (S59)) (a1 : Int) (r1 : Int) (r2 : Int) (r3 : Int) (r4 : Bool) (w : World) (hr0 : Kd.C k59 w A0 l0.length l0) (hc0 : l0.length ≤ c0) (h : spec_l09Of.f l0 a1 = some (r1, r2, r3, r4)) :
  Calls Try.prog 115 #[.slice A0 l0.length c0, .int .i64 a1] w fun e w' => e = .returned (.agg #[.int .i64 r1, .int .i64 r2, .int .i64 r3, .bool r4]) ∧ Below w.heap.size w w' := by
 have hu59 := Try.underlying59
 have HR0 := Aside0.mk hr0
 have HC0 := Aside0.mk hc0
 clear hr0 hc0
 have HB := Aside0.mk (Below.refl w.heap.size w)
 have H : (if a1 > 0 then (if 0 ≤ (wrap64 ((wrap64 (2 * a1)) - 1)) then (if (wrap64 ((wrap64 (2 * a1)) - 1)) < (l0.length : Int) then (some ((rd_T59 l0 (wrap64 ((wrap64 (2 * a1)) - 1))).f0.f0, (rd_T59 l0 (wrap64 ((wrap64 (2 * a1)) - 1))).f0.f1, (rd_T59 l0 (wrap64 ((wrap64 (2 * a1)) - 1))).f0.f2, (rd_T59 l0 (wrap64 ((wrap64 (2 * a1)) - 1))).f1)) else (none)) else (none)) else (if 0 ≤ (wrap64 ((wrap64 ((-2) * a1)) - 2)) then (if (wrap64 ((wrap64 ((-2) * a1)) - 2)) < (l0.length : Int) then (some ((rd_T59 l0 (wrap64 ((wrap64 ((-2) * a1)) - 2))).f0.f0, (rd_T59 l0 (wrap64 ((wrap64 ((-2) * a1)) - 2))).f0.f1, (rd_T59 l0 (wrap64 ((wrap64 ((-2) * a1)) - 2))).f0.f2, (rd_T59 l0 (wrap64 ((wrap64 ((-2) * a1)) - 2))).f1)) else (none)) else (none))) = some (r1, r2, r3, r4) := h
 clear h
 by_cases c3 : a1 > 0
 ·rw [if_pos c3] at H
  have c3b0 : decide (0 < a1) = true := decide_eq_true c3
  clear c3
  obtain ⟨ji4, hji4⟩ : ∃ j_ : Int, (wrap64 ((wrap64 (2 * a1)) - 1)) = j_ := ⟨_, rfl⟩
  replace H : (if 0 ≤ (ji4) then (if (ji4) < (l0.length : Int) then (some ((rd_T59 l0 (ji4)).f0.f0, (rd_T59 l0 (ji4)).f0.f1, (rd_T59 l0 (ji4)).f0.f2, (rd_T59 l0 (ji4)).f1)) else (none)) else (none)) = some (r1, r2, r3, r4) := by first | (rw [hji4] at H; exact H) | (simp only [hji4] at H ⊢; exact H)
  have hji4w : (IntKind.i64.wrap ((wrap64 (2 * a1)) - 1)) = ji4 := (i64_w _).trans hji4
  by_cases c5 : 0 ≤ (ji4)
  ·rw [if_pos c5] at H
   have c5b0 : decide (0 ≤ (ji4)) = true := decide_eq_true c5
   clear c5
   by_cases c6 : (ji4) < (l0.length : Int)
   ·rw [if_pos c6] at H
    have c6b0 : decide ((ji4) < (l0.length : Int)) = true := decide_eq_true c6
    clear c6
    simp only [Option.some.injEq, Prod.mk.injEq] at H
    obtain ⟨rfl, rfl, rfl, rfl⟩ := H
    go_enter Try.func115, Try.ntmps115
    go_wp2_with (first | (refine bx_ 4 #[.int .i64 0, .int .i64 0, .int .i64 0, .bool false] 59 ?_; intro gb186 hg w7 hbox hb; have BK186 := Aside0.mk (hbox); have GW186 := bs_ HB hg; have GE186 := bs_ HB hg; replace HB := bt_ HB hb; clear hb hbox hg; have p187 : 0 ≤ ((ji4) : Int) := od_; have q187 : (ji4) < (l0.length : Int) := od_; obtain ⟨ad187, e187, hx187_0, hx187_1, hx187_2, hx187_3⟩ := at_T59 HR0.out (ji4) p187 q187; cases e187; replace hx187_0 := clTr HB.out hx187_0; replace hx187_1 := clTr HB.out hx187_1; replace hx187_2 := clTr HB.out hx187_2; replace hx187_3 := clTr HB.out hx187_3; replace p187 := eq_true p187; replace q187 := eq_true q187; obtain ⟨hcz8_0, hcz8_1, hcz8_2, hcz8_3, hfz8_0, hfz8_1, hfz8_2, hfz8_3⟩ := ch4_ BK186))
    refine bodyPost_ret (results_cell_row rfl _ _ gb186 59 #[.int .i64 ((rd_T59 l0 (ji4)).f0.f0), .int .i64 ((rd_T59 l0 (ji4)).f0.f1), .int .i64 ((rd_T59 l0 (ji4)).f0.f2), .bool ((rd_T59 l0 (ji4)).f1)] (0, 0) _ rfl (bp_ BK186).out Try.underlying59 rfl (by kernel_rfl)) rfl ?_
    exact ⟨by first | rfl | (simp [errW_none, errW_some] <;> rfl) | (simp only [← hji4]; first | rfl | (simp [errW_none, errW_some] <;> rfl)) | (simp [*, errW_none, errW_some] <;> rfl), (bw_ HB).out⟩
   ·rw [if_neg c6] at H
    exact absurd H (by simp)
  ·rw [if_neg c5] at H
   exact absurd H (by simp)
 ·rw [if_neg c3] at H
  have c3b0 : decide (0 < a1) = false := decide_eq_false c3
  clear c3
  obtain ⟨ji9, hji9⟩ : ∃ j_ : Int, (wrap64 ((wrap64 ((-2) * a1)) - 2)) = j_ := ⟨_, rfl⟩
  replace H : (if 0 ≤ (ji9) then (if (ji9) < (l0.length : Int) then (some ((rd_T59 l0 (ji9)).f0.f0, (rd_T59 l0 (ji9)).f0.f1, (rd_T59 l0 (ji9)).f0.f2, (rd_T59 l0 (ji9)).f1)) else (none)) else (none)) = some (r1, r2, r3, r4) := by first | (rw [hji9] at H; exact H) | (simp only [hji9] at H ⊢; exact H)
  have hji9w : (IntKind.i64.wrap ((wrap64 ((-2) * a1)) - 2)) = ji9 := (i64_w _).trans hji9
  by_cases c10 : 0 ≤ (ji9)
  ·rw [if_pos c10] at H
   have c10b0 : decide (0 ≤ (ji9)) = true := decide_eq_true c10
   clear c10
   by_cases c11 : (ji9) < (l0.length : Int)
   ·rw [if_pos c11] at H
    have c11b0 : decide ((ji9) < (l0.length : Int)) = true := decide_eq_true c11
    clear c11
    simp only [Option.some.injEq, Prod.mk.injEq] at H
    obtain ⟨rfl, rfl, rfl, rfl⟩ := H
    go_enter Try.func115, Try.ntmps115
    go_wp2_with (first | (refine bx_ 4 #[.int .i64 0, .int .i64 0, .int .i64 0, .bool false] 59 ?_; intro gb186 hg w12 hbox hb; have BK186 := Aside0.mk (hbox); have GW186 := bs_ HB hg; have GE186 := bs_ HB hg; replace HB := bt_ HB hb; clear hb hbox hg; have p188 : 0 ≤ ((ji9) : Int) := od_; have q188 : (ji9) < (l0.length : Int) := od_; obtain ⟨ad188, e188, hx188_0, hx188_1, hx188_2, hx188_3⟩ := at_T59 HR0.out (ji9) p188 q188; cases e188; replace hx188_0 := clTr HB.out hx188_0; replace hx188_1 := clTr HB.out hx188_1; replace hx188_2 := clTr HB.out hx188_2; replace hx188_3 := clTr HB.out hx188_3; replace p188 := eq_true p188; replace q188 := eq_true q188; obtain ⟨hcz13_0, hcz13_1, hcz13_2, hcz13_3, hfz13_0, hfz13_1, hfz13_2, hfz13_3⟩ := ch4_ BK186))
    refine bodyPost_ret (results_cell_row rfl _ _ gb186 59 #[.int .i64 ((rd_T59 l0 (ji9)).f0.f0), .int .i64 ((rd_T59 l0 (ji9)).f0.f1), .int .i64 ((rd_T59 l0 (ji9)).f0.f2), .bool ((rd_T59 l0 (ji9)).f1)] (0, 0) _ rfl (bp_ BK186).out Try.underlying59 rfl (by kernel_rfl)) rfl ?_
    exact ⟨by first | rfl | (simp [errW_none, errW_some] <;> rfl) | (simp only [← hji9]; first | rfl | (simp [errW_none, errW_some] <;> rfl)) | (simp [*, errW_none, errW_some] <;> rfl), (bw_ HB).out⟩
   ·rw [if_neg c11] at H
    exact absurd H (by simp)
  ·rw [if_neg c10] at H
   exact absurd H (by simp)
/-! ### spec_l01Gcd: function 148 -/
def spec_l01Gcd.l0 : Nat → Int → Int → Option (Int)
 | 0, _, _ => none
 | k + 1, x0, x1 => if x1 = 0 then (some (mx x0 (wrap64 (-x0)))) else (spec_l01Gcd.l0 k x1 (Int.tmod x0 x1))
def spec_l01Gcd.f (k : Nat) (a0 : Int) (a1 : Int) : Option (Int) := spec_l01Gcd.l0 k a0 a1
theorem spec_l01Gcd.calls (k : Nat) (a0 : Int) (a1 : Int) (r : Int) (w : World) (h : spec_l01Gcd.f k a0 a1 = some r) :
  Calls Try.prog 148 #[.int .i64 a0, .int .i64 a1] w fun e w' => e = .returned (.int .i64 r) ∧ Below w.heap.size w w' := by
 have HB := Aside0.mk (Below.refl w.heap.size w)
 have H : (spec_l01Gcd.l0 k a0 a1) = some r := h
 clear h
 have H' := Aside0.mk H
 clear H
 go_enter Try.func148, Try.ntmps148
 go_wp2
 go_loopg [0, 1] k (fun kq v0 v1 w' => ∃ (x0_1 : Int) (x1_1 : Int), v0 = .int .i64 x0_1 ∧ v1 = .int .i64 x1_1 ∧ Aside0 (spec_l01Gcd.l0 kq x0_1 x1_1 = some r) ∧ Aside0 (kq ≤ k) ∧ Aside0 (Below w.heap.size w w'))
 case atStart => exact ⟨(a0), (a1), en_, en_, H', ⟨Nat.le_refl _⟩, bw_ HB⟩
 case round =>
  clear H'
  try clear c1
  try clear p2
  obtain ⟨x0_1, x1_1, rfl, rfl, HA, HK1, HB⟩ := hrel
  cases gk with
  | zero => exact absurd HA.out (by simp [spec_l01Gcd.l0])
  | succ k1 =>
   have H := HA.out
   clear HA
   simp only [spec_l01Gcd.l0] at H
   by_cases c3 : x1_1 = 0
   ·rw [if_pos c3] at H
    have c3b0 : (x1_1 == 0) = true := beq_iff_eq.mpr c3
    have c3b1 : (x1_1 != 0) = false := bne_eq_false_iff_eq.mpr c3
    clear c3
    obtain ⟨ji4, hji4⟩ : ∃ j_ : Int, (mx x0_1 (wrap64 (-x0_1))) = j_ := ⟨_, rfl⟩
    replace H : (some ji4) = some r := by first | (rw [hji4] at H; exact H) | (simp only [hji4] at H ⊢; exact H)
    have hji4_k : (if x0_1 < (IntKind.i64.wrap (-x0_1)) then (IntKind.i64.wrap (-x0_1)) else x0_1) = ji4 := by simp only [i64_w]; exact hji4
    have hji4_ : (if x0_1 < (wrap64 (-x0_1)) then (wrap64 (-x0_1)) else x0_1) = ji4 := hji4
    obtain rfl := si_ H
    go_wp2
    go_ret
    exact ⟨by first | rfl | (simp [errW_none, errW_some] <;> rfl) | (simp only [← hji4]; first | rfl | (simp [errW_none, errW_some] <;> rfl)) | (simp [*, errW_none, errW_some] <;> rfl), (bw_ HB).out⟩
   ·rw [if_neg c3] at H
    have c3b0 : (x1_1 == 0) = false := beq_eq_false_iff_ne.mpr c3
    have c3b1 : (x1_1 != 0) = true := bne_iff_ne.mpr c3
    have H' := Aside0.mk H
    clear H
    go_wp2
    go_roundg k1
    case measure => have := HK1.out; omega
    case rel => exact ⟨(x1_1), (Int.tmod x0_1 x1_1), en_, en_, H', ⟨by have := HK1.out; omega⟩, bw_ HB⟩
end Go.Proofs.Ytbilincmcnnonaa.QS
