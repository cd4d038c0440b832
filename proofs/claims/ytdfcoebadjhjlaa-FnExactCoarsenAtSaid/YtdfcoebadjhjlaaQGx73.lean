import Derived.Test.YtdfcoebadjhjlaaQGx6
namespace Go.Proofs.Ytdfcoebadjhjlaa.QG
set_option maxHeartbeats 8000000
set_option maxRecDepth 100000
open Go.RowKit Go.Proofs.YtdfcoebadjhjlaaW.PrintWords Go.Proofs.YtdfcoebadjhjlaaW.PrintLast Go.Proofs.YtdfcoebadjhjlaaW.PrintMore
attribute [local go_sem] isSome_setCell max2_int min2_int max_two min_two max_three min_three max_four min_four
set_option linter.unusedVariables false
set_option linter.unusedSimpArgs false

/-! ### laws_heldPieceS: function 53 -/
def laws_heldPieceS.l0 : Nat → List (S72) → Int → Int → Option (Int)
 | 0, _, _, _ => none
 | k + 1, x0, x1, x5 => if x5 < (x0.length : Int) then (if 0 ≤ x5 then (if ((rd_T72 x0 x5).f0.f0) = x1 then (if ((rd_T72 x0 x5).f0.f1) = (wrap64 (x1 + 1)) then (if ((rd_T72 x0 x5).f0.f2) = (wrap64 ((wrap64 (x1 + 1)) + 1)) then (if ((rd_T72 x0 x5).f1) = (wrap64 ((wrap64 ((wrap64 (x1 + 1)) + 1)) + 1)) then (laws_heldPieceS.l0 k x0 (wrap64 ((wrap64 ((wrap64 ((wrap64 (x1 + 1)) + 1)) + 1)) + 1)) (wrap64 (x5 + 1))) else (some (-1))) else (some (-1))) else (some (-1))) else (some (-1))) else (none)) else (some x1)
def laws_heldPieceS.f (k : Nat) (l0 : List (S72)) (a1 : Int) : Option (Int) := laws_heldPieceS.l0 k l0 a1 0
theorem laws_heldPieceS.calls (k : Nat) (A0 : Option Addr) (c0 : Nat) (l0 : List (S72)) (a1 r : Int) (w : World) (hr0 : Kd.C k72 w A0 l0.length l0) (hc0 : l0.length ≤ c0) (h : laws_heldPieceS.f k l0 a1 = some r) :
  Calls Try.prog 53 #[.slice A0 l0.length c0, .int .i64 a1] w fun e w' => e = .returned (.int .i64 r) ∧ Drawn0 w w' := by
 have hu72 := Try.underlying72
 have hu31 := Try.underlying31
 have HR0 := Aside0.mk hr0
 have HC0 := Aside0.mk hc0
 clear hr0 hc0
 unfold laws_heldPieceS.f at h
 have H := h
 clear h
 have H' := Aside0.mk H
 clear H
 go_enter Try.func53, Try.ntmps53
 go_wp2
 go_loopg [1, 5] k (fun kq v1 v5 w' => ∃ (x1_1 : Int) (x5_1 : Int), v1 = .int .i64 x1_1 ∧ v5 = .int .i64 x5_1 ∧ Aside0 (laws_heldPieceS.l0 kq l0 x1_1 x5_1 = some r) ∧ Aside0 (kq ≤ k) ∧ Drawn0 w w')
 case atStart => exact ⟨(a1), (0), en_, en_, H', ⟨Nat.le_refl _⟩, de_⟩
 clear H'
 obtain ⟨x1_1, x5_1, rfl, rfl, HA, HK1, ⟨m1, rfl⟩⟩ := hrel
 cases gk with
 | zero => exact absurd HA.out (by simp [laws_heldPieceS.l0])
 | succ k1 =>
  have H := HA.out
  clear HA
  simp only [laws_heldPieceS.l0] at H
  replace H := il_ H
  rcases H with ⟨c3b0, H⟩ | ⟨c3b0, H⟩
  ·replace H := imn_ H
   obtain ⟨c4b0, H⟩ := H
   replace H := ie_ H
   rcases H with ⟨c5b0, c5b1, H⟩ | ⟨c5, c5b0, c5b1, H⟩
   ·replace H := ie_ H
    rcases H with ⟨c6b0, c6b1, H⟩ | ⟨c6, c6b0, c6b1, H⟩
    ·replace H := ie_ H
     rcases H with ⟨c7b0, c7b1, H⟩ | ⟨c7, c7b0, c7b1, H⟩
     ·replace H := ie_ H
      rcases H with ⟨c8b0, c8b1, H⟩ | ⟨c8, c8b0, c8b1, H⟩
      ·have H' := Aside0.mk H
       clear H
       have p393 : 0 ≤ (x5_1 : Int) := od_
       have q393 : x5_1 < (l0.length : Int) := od_
       obtain ⟨ad393, e393, hx393_0, hx393_1, hx393_2, hx393_3⟩ := at_T72 HR0.out x5_1 p393 q393
       cases e393
       replace p393 := eq_true p393
       replace q393 := eq_true q393
       have p394 : 0 ≤ (x5_1 : Int) := od_
       have q394 : x5_1 < (l0.length : Int) := od_
       obtain ⟨ad394, e394, hx394_0, hx394_1, hx394_2, hx394_3⟩ := at_T72 HR0.out x5_1 p394 q394
       obtain rfl : ad393 = ad394 := (by injection e394)
       replace p394 := eq_true p394
       replace q394 := eq_true q394
       have p395 : 0 ≤ (x5_1 : Int) := od_
       have q395 : x5_1 < (l0.length : Int) := od_
       obtain ⟨ad395, e395, hx395_0, hx395_1, hx395_2, hx395_3⟩ := at_T72 HR0.out x5_1 p395 q395
       obtain rfl : ad393 = ad395 := (by injection e395)
       replace p395 := eq_true p395
       replace q395 := eq_true q395
       have p396 : 0 ≤ (x5_1 : Int) := od_
       have q396 : x5_1 < (l0.length : Int) := od_
       obtain ⟨ad396, e396, hx396_0, hx396_1, hx396_2, hx396_3⟩ := at_T72 HR0.out x5_1 p396 q396
       obtain rfl : ad393 = ad396 := (by injection e396)
       replace p396 := eq_true p396
       replace q396 := eq_true q396
       go_wp2
       go_roundg k1
       case measure => have := HK1.out; omega
       case rel => exact ⟨(wrap64 ((wrap64 ((wrap64 ((wrap64 (x1_1 + 1)) + 1)) + 1)) + 1)), (wrap64 (x5_1 + 1)), en_, en_, H', ⟨by have := HK1.out; omega⟩, de_⟩
      obtain rfl := si_ H
      have p393 : 0 ≤ (x5_1 : Int) := od_
      have q393 : x5_1 < (l0.length : Int) := od_
      obtain ⟨ad393, e393, hx393_0, hx393_1, hx393_2, hx393_3⟩ := at_T72 HR0.out x5_1 p393 q393
      cases e393
      replace p393 := eq_true p393
      replace q393 := eq_true q393
      have p394 : 0 ≤ (x5_1 : Int) := od_
      have q394 : x5_1 < (l0.length : Int) := od_
      obtain ⟨ad394, e394, hx394_0, hx394_1, hx394_2, hx394_3⟩ := at_T72 HR0.out x5_1 p394 q394
      obtain rfl : ad393 = ad394 := (by injection e394)
      replace p394 := eq_true p394
      replace q394 := eq_true q394
      have p395 : 0 ≤ (x5_1 : Int) := od_
      have q395 : x5_1 < (l0.length : Int) := od_
      obtain ⟨ad395, e395, hx395_0, hx395_1, hx395_2, hx395_3⟩ := at_T72 HR0.out x5_1 p395 q395
      obtain rfl : ad393 = ad395 := (by injection e395)
      replace p395 := eq_true p395
      replace q395 := eq_true q395
      have p396 : 0 ≤ (x5_1 : Int) := od_
      have q396 : x5_1 < (l0.length : Int) := od_
      obtain ⟨ad396, e396, hx396_0, hx396_1, hx396_2, hx396_3⟩ := at_T72 HR0.out x5_1 p396 q396
      obtain rfl : ad393 = ad396 := (by injection e396)
      replace p396 := eq_true p396
      replace q396 := eq_true q396
      go_wp2
      go_ret
      exact ⟨en_, de_⟩
     obtain rfl := si_ H
     have p393 : 0 ≤ (x5_1 : Int) := od_
     have q393 : x5_1 < (l0.length : Int) := od_
     obtain ⟨ad393, e393, hx393_0, hx393_1, hx393_2, hx393_3⟩ := at_T72 HR0.out x5_1 p393 q393
     cases e393
     replace p393 := eq_true p393
     replace q393 := eq_true q393
     have p394 : 0 ≤ (x5_1 : Int) := od_
     have q394 : x5_1 < (l0.length : Int) := od_
     obtain ⟨ad394, e394, hx394_0, hx394_1, hx394_2, hx394_3⟩ := at_T72 HR0.out x5_1 p394 q394
     obtain rfl : ad393 = ad394 := (by injection e394)
     replace p394 := eq_true p394
     replace q394 := eq_true q394
     have p395 : 0 ≤ (x5_1 : Int) := od_
     have q395 : x5_1 < (l0.length : Int) := od_
     obtain ⟨ad395, e395, hx395_0, hx395_1, hx395_2, hx395_3⟩ := at_T72 HR0.out x5_1 p395 q395
     obtain rfl : ad393 = ad395 := (by injection e395)
     replace p395 := eq_true p395
     replace q395 := eq_true q395
     go_wp2
     go_ret
     exact ⟨en_, de_⟩
    obtain rfl := si_ H
    have p393 : 0 ≤ (x5_1 : Int) := od_
    have q393 : x5_1 < (l0.length : Int) := od_
    obtain ⟨ad393, e393, hx393_0, hx393_1, hx393_2, hx393_3⟩ := at_T72 HR0.out x5_1 p393 q393
    cases e393
    replace p393 := eq_true p393
    replace q393 := eq_true q393
    have p394 : 0 ≤ (x5_1 : Int) := od_
    have q394 : x5_1 < (l0.length : Int) := od_
    obtain ⟨ad394, e394, hx394_0, hx394_1, hx394_2, hx394_3⟩ := at_T72 HR0.out x5_1 p394 q394
    obtain rfl : ad393 = ad394 := (by injection e394)
    replace p394 := eq_true p394
    replace q394 := eq_true q394
    go_wp2
    go_ret
    exact ⟨en_, de_⟩
   obtain rfl := si_ H
   have p393 : 0 ≤ (x5_1 : Int) := od_
   have q393 : x5_1 < (l0.length : Int) := od_
   obtain ⟨ad393, e393, hx393_0, hx393_1, hx393_2, hx393_3⟩ := at_T72 HR0.out x5_1 p393 q393
   cases e393
   replace p393 := eq_true p393
   replace q393 := eq_true q393
   go_wp2
   go_ret
   exact ⟨en_, de_⟩
  obtain rfl := si_ H
  go_wp2
  go_ret
  exact ⟨en_, de_⟩
/-! ### laws_heldMeasure: function 19 -/
def laws_heldMeasure.f (k : Nat) (a0_0 a0_1 a0_2 : Int) (l0_3 : List (S72)) (a1 : Int) : Option (Int) := (laws_heldPieceS.f k l0_3 a1).bind fun t398 => (if t398 < 0 then (some (-1)) else (some t398))
theorem laws_heldMeasure.calls (k : Nat) (a0_0 a0_1 a0_2 : Int) (A0_3 : Option Addr) (c0_3 : Nat) (l0_3 : List (S72)) (a1 r : Int) (w : World) (hr0_3 : Kd.C k72 w A0_3 l0_3.length l0_3) (hc0_3 : l0_3.length ≤ c0_3) (h : laws_heldMeasure.f k a0_0 a0_1 a0_2 l0_3 a1 = some r) :
  Calls Try.prog 19 #[.agg #[.int .i64 a0_0, .int .i64 a0_1, .int .i64 a0_2, .slice A0_3 l0_3.length c0_3], .int .i64 a1] w fun e w' => e = .returned (.int .i64 r) ∧ Below w.heap.size w w' := by
 have hu34 := Try.underlying34
 have HR0_3 := Aside0.mk hr0_3
 have HC0_3 := Aside0.mk hc0_3
 clear hr0_3 hc0_3
 have HB := Aside0.mk (Below.refl w.heap.size w)
 unfold laws_heldMeasure.f at h
 have H := h
 clear h
 replace H := oc_ H
 obtain ⟨t398, A3, H⟩ := H
 replace H := il_ H
 rcases H with ⟨c4b0, H⟩ | ⟨c4b0, H⟩
 ·obtain rfl := si_ H
  go_enter Try.func19, Try.ntmps19
  go_wp2_with (first | ((refine gd_ 2 ?_); refine by_ 2 #[.int .i64 a0_0, .int .i64 a0_1, .int .i64 a0_2, .slice A0_3 l0_3.length c0_3] 34 HB ?_; intro gb397 hg w5 BK397 hb GW397 HB_; replace HB := HB_; clear hb hg; obtain ⟨hcz6_0, hcz6_1, hcz6_2, hcz6_3, hfz6_0, hfz6_1, hfz6_2, hfz6_3⟩ := ch4_ BK397) | ((refine gc_ 53 ?_); refine ge_ 8 Try.func53 #[.slice A0_3 l0_3.length c0_3, .int .i64 a1] ?_; (with_reducible refine (laws_heldPieceS.calls k _ _ l0_3 a1 t398 _ ?side1 ?side2 A3.out).mono ?_); (case side1 => exact ca_ (Kd.C_below HR0_3.out HB.out)); (case side2 => exact HC0_3.out); rintro e w' ⟨rfl, ⟨nd, rfl⟩⟩; refine ⟨_, rfl, ?_⟩))
  go_ret
  exact ⟨es_, (bw_ HB).out⟩
 obtain rfl := si_ H
 go_enter Try.func19, Try.ntmps19
 go_wp2_with (first | ((refine gd_ 2 ?_); refine by_ 2 #[.int .i64 a0_0, .int .i64 a0_1, .int .i64 a0_2, .slice A0_3 l0_3.length c0_3] 34 HB ?_; intro gb397 hg w7 BK397 hb GW397 HB_; replace HB := HB_; clear hb hg; obtain ⟨hcz8_0, hcz8_1, hcz8_2, hcz8_3, hfz8_0, hfz8_1, hfz8_2, hfz8_3⟩ := ch4_ BK397) | ((refine gc_ 53 ?_); refine ge_ 8 Try.func53 #[.slice A0_3 l0_3.length c0_3, .int .i64 a1] ?_; (with_reducible refine (laws_heldPieceS.calls k _ _ l0_3 a1 t398 _ ?side1 ?side2 A3.out).mono ?_); (case side1 => exact ca_ (Kd.C_below HR0_3.out HB.out)); (case side2 => exact HC0_3.out); rintro e w' ⟨rfl, ⟨nd, rfl⟩⟩; refine ⟨_, rfl, ?_⟩))
 go_ret
 exact ⟨es_, (bw_ HB).out⟩
end Go.Proofs.Ytdfcoebadjhjlaa.QG
