import Derived.Test.YtgoeelhiffbjlaaQBx7
namespace Go.Proofs.Ytgoeelhiffbjlaa.QB
set_option maxHeartbeats 8000000
set_option maxRecDepth 100000
open Go.RowKit YtgoeelhiffbjlaaW.PrintWords YtgoeelhiffbjlaaW.PrintLast YtgoeelhiffbjlaaW.PrintMore
attribute [local go_sem] isSome_setCell max2_int min2_int max_two min_two max_three min_three max_four min_four
set_option linter.unusedVariables false
set_option linter.unusedSimpArgs false
def laws_eqInt64S.l0 : Nat → List Int → List Int → Int → Option (Bool)
 | 0, _, _, _ => none
 | k + 1, x0, x1, x5 => if x5 < (x0.length : Int) then (if 0 ≤ x5 then (if x5 < (x1.length : Int) then (if (rd x0 x5) = (rd x1 x5) then (laws_eqInt64S.l0 k x0 x1 (wrap64 (x5 + 1))) else (some false)) else (none)) else (none)) else (some true)
def laws_eqInt64S.f (k : Nat) (l0 l1 : List Int) : Option (Bool) := if (l0.length : Int) = (l1.length : Int) then (laws_eqInt64S.l0 k l0 l1 0) else (some false)
theorem laws_eqInt64S.calls (k : Nat) (A0 : Option Addr) (c0 : Nat) (l0 : List Int) (A1 : Option Addr) (c1 : Nat) (l1 : List Int) (r : Bool) (w : World) (hr0 : Kd.C (Kd.int .i64) w A0 l0.length l0) (hc0 : l0.length ≤ c0) (hr1 : Kd.C (Kd.int .i64) w A1 l1.length l1) (hc1 : l1.length ≤ c1) (h : laws_eqInt64S.f k l0 l1 = some r) :
  Calls Try.prog 65 #[.slice A0 l0.length c0, .slice A1 l1.length c1] w fun e w' => e = .returned (.bool r) ∧ Drawn0 w w' := by
 have HR0 := Aside0.mk hr0
 have HC0 := Aside0.mk hc0
 clear hr0 hc0
 have HR1 := Aside0.mk hr1
 have HC1 := Aside0.mk hc1
 clear hr1 hc1
 unfold laws_eqInt64S.f at h
 have H := h
 clear h
 by_cases c3 : (l0.length : Int) = (l1.length : Int)
 ·rw [if_pos c3] at H
  have c3b0 : ((l0.length : Int) == (l1.length : Int)) = true := beq_iff_eq.mpr c3
  have c3b1 : ((l0.length : Int) != (l1.length : Int)) = false := bne_eq_false_iff_eq.mpr c3
  have c3b2 : (l0.length == l1.length) = true := by first | simpa using c3 | (simp at c3 ⊢; omega)
  clear c3
  have H' := Aside0.mk H
  clear H
  go_enter Try.func65, Try.ntmps65
  go_wp2
  repeat (go_quiet (fail); try go_wp2)
  go_loopg [5] k (fun kq v5 w' => ∃ (x5_1 : Int), v5 = .int .i64 x5_1 ∧ Aside0 (laws_eqInt64S.l0 kq l0 l1 x5_1 = some r) ∧ Aside0 (kq ≤ k) ∧ Drawn0 w w')
  case atStart => exact ⟨(0), en_, H', ⟨Nat.le_refl _⟩, de_⟩
  clear H'
  try clear c1
  try clear c3
  try clear c3b0
  try clear c3b1
  try clear c3b2
  obtain ⟨x5_1, rfl, HA, HK1, ⟨m1, rfl⟩⟩ := hrel
  cases gk with
  | zero => exact absurd HA.out (by simp [laws_eqInt64S.l0])
  | succ k1 =>
   have H := HA.out
   clear HA
   simp only [laws_eqInt64S.l0] at H
   replace H := il_ H
   rcases H with ⟨c4b0, H⟩ | ⟨c4b0, H⟩
   ·replace H := imn_ H
    obtain ⟨c5b0, H⟩ := H
    replace H := iln_ H
    obtain ⟨c6b0, H⟩ := H
    replace H := ie_ H
    rcases H with ⟨c7b0, c7b1, H⟩ | ⟨c7, c7b0, c7b1, H⟩
    ·have H' := Aside0.mk H
     clear H
     have p503 : 0 ≤ (x5_1 : Int) := od_
     have q503 : x5_1 < (l0.length : Int) := od_
     obtain ⟨ad503, e503, hx503_0⟩ := Kd.at_int HR0.out x5_1 p503 q503
     cases e503
     replace p503 := eq_true p503
     replace q503 := eq_true q503
     have p504 : 0 ≤ (x5_1 : Int) := od_
     have q504 : x5_1 < (l1.length : Int) := od_
     obtain ⟨ad504, e504, hx504_0⟩ := Kd.at_int HR1.out x5_1 p504 q504
     cases e504
     replace p504 := eq_true p504
     replace q504 := eq_true q504
     go_wp2
     repeat (go_quiet (fail); try go_wp2)
     go_roundg k1
     case measure => have := HK1.out; omega
     case rel => exact ⟨(wrap64 (x5_1 + 1)), en_, H', ⟨by have := HK1.out; omega⟩, de_⟩
    obtain rfl := si_ H
    have p503 : 0 ≤ (x5_1 : Int) := od_
    have q503 : x5_1 < (l0.length : Int) := od_
    obtain ⟨ad503, e503, hx503_0⟩ := Kd.at_int HR0.out x5_1 p503 q503
    cases e503
    replace p503 := eq_true p503
    replace q503 := eq_true q503
    have p504 : 0 ≤ (x5_1 : Int) := od_
    have q504 : x5_1 < (l1.length : Int) := od_
    obtain ⟨ad504, e504, hx504_0⟩ := Kd.at_int HR1.out x5_1 p504 q504
    cases e504
    replace p504 := eq_true p504
    replace q504 := eq_true q504
    go_wp2
    repeat (go_quiet (fail); try go_wp2)
    go_ret
    exact ⟨en_, de_⟩
   obtain rfl := si_ H
   go_wp2
   repeat (go_quiet (fail); try go_wp2)
   go_ret
   exact ⟨en_, de_⟩
 rw [if_neg c3] at H
 have c3b0 : ((l0.length : Int) == (l1.length : Int)) = false := beq_eq_false_iff_ne.mpr c3
 have c3b1 : ((l0.length : Int) != (l1.length : Int)) = true := bne_iff_ne.mpr c3
 have c3b2 : (l0.length == l1.length) = false := by first | simpa using c3 | (simp at c3 ⊢; omega)
 obtain rfl := si_ H
 go_enter Try.func65, Try.ntmps65
 go_wp2
 repeat (go_quiet (fail); try go_wp2)
 go_ret
 exact ⟨en_, de_⟩
def laws_eqEnd.f (a0_0 a0_1 a1_0 a1_1 : Int) : Option (Bool) := if a0_0 = a1_0 then (if a0_1 = a1_1 then (some true) else (some false)) else (some false)
theorem laws_eqEnd.calls (a0_0 a0_1 a1_0 a1_1 : Int) (r : Bool) (w : World) (h : laws_eqEnd.f a0_0 a0_1 a1_0 a1_1 = some r) :
  Calls Try.prog 66 #[.agg #[.int .i64 a0_0, .int .i64 a0_1], .agg #[.int .i64 a1_0, .int .i64 a1_1]] w fun e w' => e = .returned (.bool r) ∧ Below w.heap.size w w' := by
 have hu74 := Try.underlying74
 have HB := Aside0.mk (Below.refl w.heap.size w)
 unfold laws_eqEnd.f at h
 have H := h
 clear h
 replace H := ie_ H
 rcases H with ⟨c3b0, c3b1, H⟩ | ⟨c3, c3b0, c3b1, H⟩
 ·replace H := ie_ H
  rcases H with ⟨c4b0, c4b1, H⟩ | ⟨c4, c4b0, c4b1, H⟩
  ·obtain rfl := si_ H
   go_enter Try.func66, Try.ntmps66
   go_wp2_with (first | ((refine gd_ 2 ?_); refine by_ 2 #[.int .i64 a0_0, .int .i64 a0_1] 74 HB ?_; intro gb505 hg w5 BK505 hb GW505 HB_; replace HB := HB_; clear hb hg) | ((refine gd_ 3 ?_); refine by_ 3 #[.int .i64 a1_0, .int .i64 a1_1] 74 HB ?_; intro gb506 hg w6 BK506 hb GW506 HB_; have NB505_506 := bm_ BK505 hg; have NB506_505 := bn_ BK505 hg; replace BK505 := bb_ BK505 hb; replace HB := HB_; clear hb hg; have hnb7 := NB505_506.out; have hnc7 := NB506_505.out; obtain ⟨hcz8_0, hcz8_1, hfz8_0, hfz8_1⟩ := ch2_ BK505; obtain ⟨hcz9_0, hcz9_1, hfz9_0, hfz9_1⟩ := ch2_ BK506))
   go_ret
   exact ⟨es_, (bw_ HB).out⟩
  obtain rfl := si_ H
  go_enter Try.func66, Try.ntmps66
  go_wp2_with (first | ((refine gd_ 2 ?_); refine by_ 2 #[.int .i64 a0_0, .int .i64 a0_1] 74 HB ?_; intro gb505 hg w10 BK505 hb GW505 HB_; replace HB := HB_; clear hb hg) | ((refine gd_ 3 ?_); refine by_ 3 #[.int .i64 a1_0, .int .i64 a1_1] 74 HB ?_; intro gb506 hg w11 BK506 hb GW506 HB_; have NB505_506 := bm_ BK505 hg; have NB506_505 := bn_ BK505 hg; replace BK505 := bb_ BK505 hb; replace HB := HB_; clear hb hg; have hnb12 := NB505_506.out; have hnc12 := NB506_505.out; obtain ⟨hcz13_0, hcz13_1, hfz13_0, hfz13_1⟩ := ch2_ BK505; obtain ⟨hcz14_0, hcz14_1, hfz14_0, hfz14_1⟩ := ch2_ BK506))
  go_ret
  exact ⟨es_, (bw_ HB).out⟩
 obtain rfl := si_ H
 go_enter Try.func66, Try.ntmps66
 go_wp2_with (first | ((refine gd_ 2 ?_); refine by_ 2 #[.int .i64 a0_0, .int .i64 a0_1] 74 HB ?_; intro gb505 hg w15 BK505 hb GW505 HB_; replace HB := HB_; clear hb hg) | ((refine gd_ 3 ?_); refine by_ 3 #[.int .i64 a1_0, .int .i64 a1_1] 74 HB ?_; intro gb506 hg w16 BK506 hb GW506 HB_; have NB505_506 := bm_ BK505 hg; have NB506_505 := bn_ BK505 hg; replace BK505 := bb_ BK505 hb; replace HB := HB_; clear hb hg; have hnb17 := NB505_506.out; have hnc17 := NB506_505.out; obtain ⟨hcz18_0, hcz18_1, hfz18_0, hfz18_1⟩ := ch2_ BK505; obtain ⟨hcz19_0, hcz19_1, hfz19_0, hfz19_1⟩ := ch2_ BK506))
 go_ret
 exact ⟨es_, (bw_ HB).out⟩
def laws_eqInt64A2.l0 : Nat → Int → Int → Int → Int → Int → Option (Bool)
 | 0, _, _, _, _, _ => none
 | k + 1, x5, x508000, x508001, x509000, x509001 => if x5 < 2 then (if x5 = 0 then (if x508000 = x509000 then (laws_eqInt64A2.l0 k (wrap64 (x5 + 1)) x508000 x508001 x509000 x509001) else (some false)) else (if x5 = 1 then (if x508001 = x509001 then (laws_eqInt64A2.l0 k (wrap64 (x5 + 1)) x508000 x508001 x509000 x509001) else (some false)) else (none))) else (some true)
def laws_eqInt64A2.f (k : Nat) (a0_0 a0_1 a1_0 a1_1 : Int) : Option (Bool) := laws_eqInt64A2.l0 k 0 a0_0 a0_1 a1_0 a1_1
theorem laws_eqInt64A2.calls (k : Nat) (a0_0 a0_1 a1_0 a1_1 : Int) (r : Bool) (w : World) (h : laws_eqInt64A2.f k a0_0 a0_1 a1_0 a1_1 = some r) :
  Calls Try.prog 182 #[.agg #[.int .i64 a0_0, .int .i64 a0_1], .agg #[.int .i64 a1_0, .int .i64 a1_1]] w fun e w' => e = .returned (.bool r) ∧ Below w.heap.size w w' := by
 have hu44 := Try.underlying44
 have HB := Aside0.mk (Below.refl w.heap.size w)
 unfold laws_eqInt64A2.f at h
 have H := h
 clear h
 have H' := Aside0.mk H
 clear H
 go_enter Try.func182, Try.ntmps182
 go_wp2_with (first | ((refine gd_ 2 ?_); refine by_ 2 #[.int .i64 a0_0, .int .i64 a0_1] 44 HB ?_; intro gb507 hg w3 BK507 hb GW507 HB_; replace HB := HB_; clear hb hg) | ((refine gd_ 3 ?_); refine by_ 3 #[.int .i64 a1_0, .int .i64 a1_1] 44 HB ?_; intro gb508 hg w4 BK508 hb GW508 HB_; have NB507_508 := bm_ BK507 hg; have NB508_507 := bn_ BK507 hg; replace BK507 := bb_ BK507 hb; replace HB := HB_; clear hb hg))
 repeat (go_quiet (first | ((refine gd_ 2 ?_); refine by_ 2 #[.int .i64 a0_0, .int .i64 a0_1] 44 HB ?_; intro gb507 hg w3 BK507 hb GW507 HB_; replace HB := HB_; clear hb hg) | ((refine gd_ 3 ?_); refine by_ 3 #[.int .i64 a1_0, .int .i64 a1_1] 44 HB ?_; intro gb508 hg w4 BK508 hb GW508 HB_; have NB507_508 := bm_ BK507 hg; have NB508_507 := bn_ BK507 hg; replace BK507 := bb_ BK507 hb; replace HB := HB_; clear hb hg)); try go_wp2_with (first | ((refine gd_ 2 ?_); refine by_ 2 #[.int .i64 a0_0, .int .i64 a0_1] 44 HB ?_; intro gb507 hg w3 BK507 hb GW507 HB_; replace HB := HB_; clear hb hg) | ((refine gd_ 3 ?_); refine by_ 3 #[.int .i64 a1_0, .int .i64 a1_1] 44 HB ?_; intro gb508 hg w4 BK508 hb GW508 HB_; have NB507_508 := bm_ BK507 hg; have NB508_507 := bn_ BK507 hg; replace BK507 := bb_ BK507 hb; replace HB := HB_; clear hb hg)))
 go_loopg [5] k (fun kq v5 w' => ∃ (x5_1 : Int), v5 = .int .i64 x5_1 ∧ Aside0 (laws_eqInt64A2.l0 kq x5_1 a0_0 a0_1 a1_0 a1_1 = some r) ∧ Aside0 (kq ≤ k) ∧ Aside0 (w'.heap[gb507]? = some (.cells #[.int .i64 a0_0, .int .i64 a0_1] 44 (0, 0))) ∧ Aside0 (w'.heap[gb508]? = some (.cells #[.int .i64 a1_0, .int .i64 a1_1] 44 (0, 0))) ∧ Aside0 (Below w.heap.size w w'))
 case atStart => exact ⟨(0), en_, H', ⟨Nat.le_refl _⟩, bl_ BK507, bl_ BK508, bw_ HB⟩
 clear H'
 obtain ⟨x5_1, rfl, HA, HK1, BK507, BK508, HB⟩ := hrel
 cases gk with
 | zero => exact absurd HA.out (by simp [laws_eqInt64A2.l0])
 | succ k1 =>
  have H := HA.out
  clear HA
  simp only [laws_eqInt64A2.l0] at H
  replace H := il_ H
  rcases H with ⟨c5b0, H⟩ | ⟨c5b0, H⟩
  ·by_cases c6 : x5_1 = 0
   ·subst c6
    replace H := i1_ H
    replace H := ie_ H
    rcases H with ⟨c7b0, c7b1, H⟩ | ⟨c7, c7b0, c7b1, H⟩
    ·have H' := Aside0.mk H
     clear H
     have hnb8 := NB507_508.out
     have hnc8 := NB508_507.out
     obtain ⟨hcz9_0, hcz9_1, hfz9_0, hfz9_1⟩ := ch2_ BK507
     obtain ⟨hcz10_0, hcz10_1, hfz10_0, hfz10_1⟩ := ch2_ BK508
     go_wp2
     repeat (go_quiet (fail); try go_wp2)
     go_roundg k1
     case measure => have := HK1.out; omega
     case rel => exact ⟨(wrap64 (0 + 1)), en_, H', ⟨by have := HK1.out; omega⟩, bl_ BK507, bl_ BK508, bw_ HB⟩
    obtain rfl := si_ H
    have hnb11 := NB507_508.out
    have hnc11 := NB508_507.out
    obtain ⟨hcz12_0, hcz12_1, hfz12_0, hfz12_1⟩ := ch2_ BK507
    obtain ⟨hcz13_0, hcz13_1, hfz13_0, hfz13_1⟩ := ch2_ BK508
    go_wp2
    repeat (go_quiet (fail); try go_wp2)
    go_ret
    exact ⟨es_, (bw_ HB).out⟩
   rw [if_neg c6] at H
   have c6b0 : (x5_1 == 0) = false := beq_eq_false_iff_ne.mpr c6
   have c6b1 : (x5_1 != 0) = true := bne_iff_ne.mpr c6
   by_cases c14 : x5_1 = 1
   ·subst c14
    replace H := i1_ H
    replace H := ie_ H
    rcases H with ⟨c15b0, c15b1, H⟩ | ⟨c15, c15b0, c15b1, H⟩
    ·have H' := Aside0.mk H
     clear H
     have hnb16 := NB507_508.out
     have hnc16 := NB508_507.out
     obtain ⟨hcz17_0, hcz17_1, hfz17_0, hfz17_1⟩ := ch2_ BK507
     obtain ⟨hcz18_0, hcz18_1, hfz18_0, hfz18_1⟩ := ch2_ BK508
     go_wp2
     repeat (go_quiet (fail); try go_wp2)
     go_roundg k1
     case measure => have := HK1.out; omega
     case rel => exact ⟨(wrap64 (1 + 1)), en_, H', ⟨by have := HK1.out; omega⟩, bl_ BK507, bl_ BK508, bw_ HB⟩
    obtain rfl := si_ H
    have hnb19 := NB507_508.out
    have hnc19 := NB508_507.out
    obtain ⟨hcz20_0, hcz20_1, hfz20_0, hfz20_1⟩ := ch2_ BK507
    obtain ⟨hcz21_0, hcz21_1, hfz21_0, hfz21_1⟩ := ch2_ BK508
    go_wp2
    repeat (go_quiet (fail); try go_wp2)
    go_ret
    exact ⟨es_, (bw_ HB).out⟩
   rw [if_neg c14] at H
   exact absurd H (by simp)
  obtain rfl := si_ H
  go_wp2
  repeat (go_quiet (fail); try go_wp2)
  go_ret
  exact ⟨es_, (bw_ HB).out⟩
def laws_eqMatrix.l0 : Nat → Int → Int → Int → Int → Int → Int → Int → Int → Int → Option (Bool)
 | 0, _, _, _, _, _, _, _, _, _ => none
 | k + 1, x5, x510000, x510001, x510002, x510003, x511000, x511001, x511002, x511003 => if x5 < 2 then (if x5 = 0 then ((laws_eqInt64A2.f k x510000 x510001 x511000 x511001).bind fun t511 => (if t511 = true then (laws_eqMatrix.l0 k (wrap64 (x5 + 1)) x510000 x510001 x510002 x510003 x511000 x511001 x511002 x511003) else (some false))) else (if x5 = 1 then ((laws_eqInt64A2.f k x510002 x510003 x511002 x511003).bind fun t512 => (if t512 = true then (laws_eqMatrix.l0 k (wrap64 (x5 + 1)) x510000 x510001 x510002 x510003 x511000 x511001 x511002 x511003) else (some false))) else (none))) else (some true)
def laws_eqMatrix.f (k : Nat) (a0_0 a0_1 a0_2 a0_3 a1_0 a1_1 a1_2 a1_3 : Int) : Option (Bool) := laws_eqMatrix.l0 k 0 a0_0 a0_1 a0_2 a0_3 a1_0 a1_1 a1_2 a1_3
def laws_eqMatrix.T4 : Bool × List (List Nat × List Nat) := (true, [([], []), ([0], [0]), ([1], [1]), ([], []), ([3], [3]), ([4], [4]), ([2, 5], [2, 5]), ([6], [6])])
def laws_eqMatrix.B4 : List Nat := [0, 1, 3, 0, 8, 24, 63, 127]
theorem laws_eqMatrix.tab4 : rtab .any (opsOf Try.f145 4) = laws_eqMatrix.T4 := by kernel_rfl
theorem laws_eqMatrix.bits4 : waitsOk laws_eqMatrix.T4.2 laws_eqMatrix.B4 = true := by kernel_rfl
theorem laws_eqMatrix.calls (k : Nat) (a0_0 a0_1 a0_2 a0_3 a1_0 a1_1 a1_2 a1_3 : Int) (r : Bool) (w : World) (h : laws_eqMatrix.f k a0_0 a0_1 a0_2 a0_3 a1_0 a1_1 a1_2 a1_3 = some r) :
  Calls Try.prog 145 #[.agg #[.int .i64 a0_0, .int .i64 a0_1, .int .i64 a0_2, .int .i64 a0_3], .agg #[.int .i64 a1_0, .int .i64 a1_1, .int .i64 a1_2, .int .i64 a1_3]] w fun e w' => e = .returned (.bool r) ∧ Below w.heap.size w w' := by
 have hu46 := Try.underlying46
 have hu44 := Try.underlying44
 have HB := Aside0.mk (Below.refl w.heap.size w)
 unfold laws_eqMatrix.f at h
 have H := h
 clear h
 have H' := Aside0.mk H
 clear H
 go_enter Try.func145, Try.ntmps145
 go_wp2_with (first | ((refine gd_ 2 ?_); refine by_ 2 #[.int .i64 a0_0, .int .i64 a0_1, .int .i64 a0_2, .int .i64 a0_3] 46 HB ?_; intro gb509 hg w3 BK509 hb GW509 HB_; replace HB := HB_; clear hb hg) | ((refine gd_ 3 ?_); refine by_ 3 #[.int .i64 a1_0, .int .i64 a1_1, .int .i64 a1_2, .int .i64 a1_3] 46 HB ?_; intro gb510 hg w4 BK510 hb GW510 HB_; have NB509_510 := bm_ BK509 hg; have NB510_509 := bn_ BK509 hg; replace BK509 := bb_ BK509 hb; replace HB := HB_; clear hb hg))
 go_loopg [5] k (fun kq v5 w' => ∃ (x5_1 : Int), v5 = .int .i64 x5_1 ∧ Aside0 (laws_eqMatrix.l0 kq x5_1 a0_0 a0_1 a0_2 a0_3 a1_0 a1_1 a1_2 a1_3 = some r) ∧ Aside0 (kq ≤ k) ∧ Aside0 (w'.heap[gb509]? = some (.cells #[.int .i64 a0_0, .int .i64 a0_1, .int .i64 a0_2, .int .i64 a0_3] 46 (0, 0))) ∧ Aside0 (w'.heap[gb510]? = some (.cells #[.int .i64 a1_0, .int .i64 a1_1, .int .i64 a1_2, .int .i64 a1_3] 46 (0, 0))) ∧ Aside0 (Below w.heap.size w w'))
 case atStart => exact ⟨(0), en_, H', ⟨Nat.le_refl _⟩, bl_ BK509, bl_ BK510, bw_ HB⟩
 clear H'
 obtain ⟨x5_1, rfl, HA, HK1, BK509, BK510, HB⟩ := hrel
 cases gk with
 | zero => exact absurd HA.out (by simp [laws_eqMatrix.l0])
 | succ k1 =>
  have H := HA.out
  clear HA
  simp only [laws_eqMatrix.l0] at H
  replace H := il_ H
  rcases H with ⟨c5b0, H⟩ | ⟨c5b0, H⟩
  ·by_cases c6 : x5_1 = 0
   ·subst c6
    replace H := i1_ H
    replace H := oc_ H
    obtain ⟨t511, A7, H⟩ := H
    replace H := ib_ H
    rcases H with ⟨rfl, H⟩ | ⟨rfl, H⟩
    ·have H' := Aside0.mk H
     clear H
     try go_wp2
     replace BK509 := bd_ BK509
     replace BK510 := bd_ BK510
     replace HB := be_ HB
     refine start_ (n := 8) (S := fun w' => w'.cell? ⟨gb509, 0, none⟩ = some (.int .i64 a0_0) ∧ w'.cell? ⟨gb509, 1, none⟩ = some (.int .i64 a0_1) ∧ w'.cell? ⟨gb509, 2, none⟩ = some (.int .i64 a0_2) ∧ w'.cell? ⟨gb509, 3, none⟩ = some (.int .i64 a0_3) ∧ w'.cell? ⟨gb510, 0, none⟩ = some (.int .i64 a1_0) ∧ w'.cell? ⟨gb510, 1, none⟩ = some (.int .i64 a1_1) ∧ w'.cell? ⟨gb510, 2, none⟩ = some (.int .i64 a1_2) ∧ w'.cell? ⟨gb510, 3, none⟩ = some (.int .i64 a1_3)) (ds := []) (bv_ 8 0) (by kernel_rfl) rfl rfl ⟨cz_ BK509 0, cz_ BK509 1, cz_ BK509 2, cz_ BK509 3, cz_ BK510 0, cz_ BK510 1, cz_ BK510 2, cz_ BK510 3⟩ (fun hHeld => ?_); refine with_tabW laws_eqMatrix.tab4 laws_eqMatrix.bits4 (fun HT_ HW_ => ?_)
     generalize wr.drew = w9 at BK509 BK510 HB hHeld ⊢
     refine px_ HT_ 0 10 1 ?_
     refine px_ HT_ 1 11 3 ?_
     refine px_ HT_ 3 13 11 ?_
     refine px_ HT_ 4 14 27 ?_
     refine ta_ HT_ HW_ 2 (some 12) (bv_ 8 31) hHeld ?_ (hy := by rintro w' ⟨s0, s1, s2, s3, s4, s5, s6, s7⟩; go_simp; with_reducible rfl)
     refine ta_ HT_ HW_ 5 (some 15) (bv_ 8 63) hHeld ?_ (hy := by rintro w' ⟨s0, s1, s2, s3, s4, s5, s6, s7⟩; go_simp; with_reducible rfl)
     refine on_ HT_ 6 (some 16) (bv_ 8 127) (fun K hK => ?_)
     refine gs_ Try.func182 #[.agg #[.int .i64 a0_0, .int .i64 a0_1], .agg #[.int .i64 a1_0, .int .i64 a1_1]] ?_
     with_reducible refine (laws_eqInt64A2.calls k1 a0_0 a0_1 a1_0 a1_1 true _ A7.out).mono ?_
     rintro e w10 ⟨rfl, hb⟩
     refine ⟨_, rfl, ?_⟩
     replace BK509 := bb_ BK509 hb
     replace BK510 := bb_ BK510 hb
     replace HB := bt_ HB hb
     try clear hb
     refine hK.out _ _ ⟨cz_ BK509 0, cz_ BK509 1, cz_ BK509 2, cz_ BK509 3, cz_ BK510 0, cz_ BK510 1, cz_ BK510 2, cz_ BK510 3⟩ (fun hHeld => ?_)
     clear hK K
     refine nm_ (some 16) ?_
     refine px_ HT_ 7 17 255 ?_
     refine done_ (done_of HT_.out (by kernel_rfl)) ?_
     try go_wp2
     go_roundg k1
     case measure => have := HK1.out; omega
     case rel => exact ⟨(wrap64 (0 + 1)), en_, H', ⟨by have := HK1.out; omega⟩, bl_ BK509, bl_ BK510, bw_ HB⟩
    obtain rfl := si_ H
    try go_wp2
    replace BK509 := bd_ BK509
    replace BK510 := bd_ BK510
    replace HB := be_ HB
    refine start_ (n := 8) (S := fun w' => w'.cell? ⟨gb509, 0, none⟩ = some (.int .i64 a0_0) ∧ w'.cell? ⟨gb509, 1, none⟩ = some (.int .i64 a0_1) ∧ w'.cell? ⟨gb509, 2, none⟩ = some (.int .i64 a0_2) ∧ w'.cell? ⟨gb509, 3, none⟩ = some (.int .i64 a0_3) ∧ w'.cell? ⟨gb510, 0, none⟩ = some (.int .i64 a1_0) ∧ w'.cell? ⟨gb510, 1, none⟩ = some (.int .i64 a1_1) ∧ w'.cell? ⟨gb510, 2, none⟩ = some (.int .i64 a1_2) ∧ w'.cell? ⟨gb510, 3, none⟩ = some (.int .i64 a1_3)) (ds := []) (bv_ 8 0) (by kernel_rfl) rfl rfl ⟨cz_ BK509 0, cz_ BK509 1, cz_ BK509 2, cz_ BK509 3, cz_ BK510 0, cz_ BK510 1, cz_ BK510 2, cz_ BK510 3⟩ (fun hHeld => ?_); refine with_tabW laws_eqMatrix.tab4 laws_eqMatrix.bits4 (fun HT_ HW_ => ?_)
    generalize wr.drew = w11 at BK509 BK510 HB hHeld ⊢
    refine px_ HT_ 0 10 1 ?_
    refine px_ HT_ 1 11 3 ?_
    refine px_ HT_ 3 13 11 ?_
    refine px_ HT_ 4 14 27 ?_
    refine ta_ HT_ HW_ 2 (some 12) (bv_ 8 31) hHeld ?_ (hy := by rintro w' ⟨s0, s1, s2, s3, s4, s5, s6, s7⟩; go_simp; with_reducible rfl)
    refine ta_ HT_ HW_ 5 (some 15) (bv_ 8 63) hHeld ?_ (hy := by rintro w' ⟨s0, s1, s2, s3, s4, s5, s6, s7⟩; go_simp; with_reducible rfl)
    refine on_ HT_ 6 (some 16) (bv_ 8 127) (fun K hK => ?_)
    refine gs_ Try.func182 #[.agg #[.int .i64 a0_0, .int .i64 a0_1], .agg #[.int .i64 a1_0, .int .i64 a1_1]] ?_
    with_reducible refine (laws_eqInt64A2.calls k1 a0_0 a0_1 a1_0 a1_1 false _ A7.out).mono ?_
    rintro e w12 ⟨rfl, hb⟩
    refine ⟨_, rfl, ?_⟩
    replace BK509 := bb_ BK509 hb
    replace BK510 := bb_ BK510 hb
    replace HB := bt_ HB hb
    try clear hb
    refine hK.out _ _ ⟨cz_ BK509 0, cz_ BK509 1, cz_ BK509 2, cz_ BK509 3, cz_ BK510 0, cz_ BK510 1, cz_ BK510 2, cz_ BK510 3⟩ (fun hHeld => ?_)
    clear hK K
    refine nm_ (some 16) ?_
    refine px_ HT_ 7 17 255 ?_
    refine done_ (done_of HT_.out (by kernel_rfl)) ?_
    try go_wp2
    go_ret
    exact ⟨es_, (bw_ HB).out⟩
   rw [if_neg c6] at H
   have c6b0 : (x5_1 == 0) = false := beq_eq_false_iff_ne.mpr c6
   have c6b1 : (x5_1 != 0) = true := bne_iff_ne.mpr c6
   by_cases c13 : x5_1 = 1
   ·subst c13
    replace H := i1_ H
    replace H := oc_ H
    obtain ⟨t512, A14, H⟩ := H
    replace H := ib_ H
    rcases H with ⟨rfl, H⟩ | ⟨rfl, H⟩
    ·have H' := Aside0.mk H
     clear H
     try go_wp2
     replace BK509 := bd_ BK509
     replace BK510 := bd_ BK510
     replace HB := be_ HB
     refine start_ (n := 8) (S := fun w' => w'.cell? ⟨gb509, 0, none⟩ = some (.int .i64 a0_0) ∧ w'.cell? ⟨gb509, 1, none⟩ = some (.int .i64 a0_1) ∧ w'.cell? ⟨gb509, 2, none⟩ = some (.int .i64 a0_2) ∧ w'.cell? ⟨gb509, 3, none⟩ = some (.int .i64 a0_3) ∧ w'.cell? ⟨gb510, 0, none⟩ = some (.int .i64 a1_0) ∧ w'.cell? ⟨gb510, 1, none⟩ = some (.int .i64 a1_1) ∧ w'.cell? ⟨gb510, 2, none⟩ = some (.int .i64 a1_2) ∧ w'.cell? ⟨gb510, 3, none⟩ = some (.int .i64 a1_3)) (ds := []) (bv_ 8 0) (by kernel_rfl) rfl rfl ⟨cz_ BK509 0, cz_ BK509 1, cz_ BK509 2, cz_ BK509 3, cz_ BK510 0, cz_ BK510 1, cz_ BK510 2, cz_ BK510 3⟩ (fun hHeld => ?_); refine with_tabW laws_eqMatrix.tab4 laws_eqMatrix.bits4 (fun HT_ HW_ => ?_)
     generalize wr.drew = w16 at BK509 BK510 HB hHeld ⊢
     refine px_ HT_ 0 10 1 ?_
     refine px_ HT_ 1 11 3 ?_
     refine px_ HT_ 3 13 11 ?_
     refine px_ HT_ 4 14 27 ?_
     refine ta_ HT_ HW_ 2 (some 12) (bv_ 8 31) hHeld ?_ (hy := by rintro w' ⟨s0, s1, s2, s3, s4, s5, s6, s7⟩; go_simp; with_reducible rfl)
     refine ta_ HT_ HW_ 5 (some 15) (bv_ 8 63) hHeld ?_ (hy := by rintro w' ⟨s0, s1, s2, s3, s4, s5, s6, s7⟩; go_simp; with_reducible rfl)
     refine on_ HT_ 6 (some 16) (bv_ 8 127) (fun K hK => ?_)
     refine gs_ Try.func182 #[.agg #[.int .i64 a0_2, .int .i64 a0_3], .agg #[.int .i64 a1_2, .int .i64 a1_3]] ?_
     with_reducible refine (laws_eqInt64A2.calls k1 a0_2 a0_3 a1_2 a1_3 true _ A14.out).mono ?_
     rintro e w17 ⟨rfl, hb⟩
     refine ⟨_, rfl, ?_⟩
     replace BK509 := bb_ BK509 hb
     replace BK510 := bb_ BK510 hb
     replace HB := bt_ HB hb
     try clear hb
     refine hK.out _ _ ⟨cz_ BK509 0, cz_ BK509 1, cz_ BK509 2, cz_ BK509 3, cz_ BK510 0, cz_ BK510 1, cz_ BK510 2, cz_ BK510 3⟩ (fun hHeld => ?_)
     clear hK K
     refine nm_ (some 16) ?_
     refine px_ HT_ 7 17 255 ?_
     refine done_ (done_of HT_.out (by kernel_rfl)) ?_
     try go_wp2
     go_roundg k1
     case measure => have := HK1.out; omega
     case rel => exact ⟨(wrap64 (1 + 1)), en_, H', ⟨by have := HK1.out; omega⟩, bl_ BK509, bl_ BK510, bw_ HB⟩
    obtain rfl := si_ H
    try go_wp2
    replace BK509 := bd_ BK509
    replace BK510 := bd_ BK510
    replace HB := be_ HB
    refine start_ (n := 8) (S := fun w' => w'.cell? ⟨gb509, 0, none⟩ = some (.int .i64 a0_0) ∧ w'.cell? ⟨gb509, 1, none⟩ = some (.int .i64 a0_1) ∧ w'.cell? ⟨gb509, 2, none⟩ = some (.int .i64 a0_2) ∧ w'.cell? ⟨gb509, 3, none⟩ = some (.int .i64 a0_3) ∧ w'.cell? ⟨gb510, 0, none⟩ = some (.int .i64 a1_0) ∧ w'.cell? ⟨gb510, 1, none⟩ = some (.int .i64 a1_1) ∧ w'.cell? ⟨gb510, 2, none⟩ = some (.int .i64 a1_2) ∧ w'.cell? ⟨gb510, 3, none⟩ = some (.int .i64 a1_3)) (ds := []) (bv_ 8 0) (by kernel_rfl) rfl rfl ⟨cz_ BK509 0, cz_ BK509 1, cz_ BK509 2, cz_ BK509 3, cz_ BK510 0, cz_ BK510 1, cz_ BK510 2, cz_ BK510 3⟩ (fun hHeld => ?_); refine with_tabW laws_eqMatrix.tab4 laws_eqMatrix.bits4 (fun HT_ HW_ => ?_)
    generalize wr.drew = w18 at BK509 BK510 HB hHeld ⊢
    refine px_ HT_ 0 10 1 ?_
    refine px_ HT_ 1 11 3 ?_
    refine px_ HT_ 3 13 11 ?_
    refine px_ HT_ 4 14 27 ?_
    refine ta_ HT_ HW_ 2 (some 12) (bv_ 8 31) hHeld ?_ (hy := by rintro w' ⟨s0, s1, s2, s3, s4, s5, s6, s7⟩; go_simp; with_reducible rfl)
    refine ta_ HT_ HW_ 5 (some 15) (bv_ 8 63) hHeld ?_ (hy := by rintro w' ⟨s0, s1, s2, s3, s4, s5, s6, s7⟩; go_simp; with_reducible rfl)
    refine on_ HT_ 6 (some 16) (bv_ 8 127) (fun K hK => ?_)
    refine gs_ Try.func182 #[.agg #[.int .i64 a0_2, .int .i64 a0_3], .agg #[.int .i64 a1_2, .int .i64 a1_3]] ?_
    with_reducible refine (laws_eqInt64A2.calls k1 a0_2 a0_3 a1_2 a1_3 false _ A14.out).mono ?_
    rintro e w19 ⟨rfl, hb⟩
    refine ⟨_, rfl, ?_⟩
    replace BK509 := bb_ BK509 hb
    replace BK510 := bb_ BK510 hb
    replace HB := bt_ HB hb
    try clear hb
    refine hK.out _ _ ⟨cz_ BK509 0, cz_ BK509 1, cz_ BK509 2, cz_ BK509 3, cz_ BK510 0, cz_ BK510 1, cz_ BK510 2, cz_ BK510 3⟩ (fun hHeld => ?_)
    clear hK K
    refine nm_ (some 16) ?_
    refine px_ HT_ 7 17 255 ?_
    refine done_ (done_of HT_.out (by kernel_rfl)) ?_
    try go_wp2
    go_ret
    exact ⟨es_, (bw_ HB).out⟩
   rw [if_neg c13] at H
   exact absurd H (by simp)
  obtain rfl := si_ H
  go_wp2
  go_ret
  exact ⟨es_, (bw_ HB).out⟩
end Go.Proofs.Ytgoeelhiffbjlaa.QB
