import Derived.Test.YtgoeelhiffbjlaaQTx10
import Derived.Test.YtgoeelhiffbjlaaQTx21
import Derived.Test.YtgoeelhiffbjlaaQTx34
import Derived.Test.YtgoeelhiffbjlaaQTx38
import Derived.Test.YtgoeelhiffbjlaaQTx44
import Derived.Test.YtgoeelhiffbjlaaQTx48
import Derived.Test.YtgoeelhiffbjlaaQTx53
import Derived.Test.YtgoeelhiffbjlaaQTx63
import Derived.Test.YtgoeelhiffbjlaaQTx65
namespace Go.Proofs.Ytgoeelhiffbjlaa.QT
open Go.RowKit Go.Proofs.YtgoeelhiffbjlaaW.PrintWords Go.Proofs.YtgoeelhiffbjlaaW.PrintLast Go.Proofs.YtgoeelhiffbjlaaW.PrintMore
attribute [local go_sem] isSome_setCell max2_int min2_int max_two min_two max_three min_three max_four min_four
set_option linter.unusedVariables false
set_option linter.unusedSimpArgs false

attribute [local go_sem high] eqA25 eqA46
/-! ### laws_FnTop: function 4 -/
mutual
def laws_FnTop.l0 : Nat → Int → ByteArray → ByteArray → Int → List Int → Int → Int → Option (Bool)
 | 0, _, _, _, _, _, _, _ => none
 | k + 1, x4, x5, x6, x7, x436000, x436001, x436002 => if x7 > 0 then (if x5.size + 1 ≤ 9223372036854775807 then (laws_FnTop.l0 k x4 (x5 ++ (⟨#[117]⟩ : ByteArray)) x6 (wrap64 (x7 - 1)) x436000 x436001 x436002) else (none)) else ((laws_dice_below.f x436000 x436001 x436002 3).bind fun bt446 => (laws_FnTop.l1 k x4 x5 x6 bt446.1 x436000 bt446.2.1 bt446.2.2))
def laws_FnTop.l1 : Nat → Int → ByteArray → ByteArray → Int → List Int → Int → Int → Option (Bool)
 | 0, _, _, _, _, _, _, _ => none
 | k + 1, x4, x5, x6, x8, x436000, x436001, x436002 => if x8 > 0 then ((some (([(⟨#[48]⟩ : ByteArray), (⟨#[49]⟩ : ByteArray)] : List ByteArray) : List ByteArray)).bind fun y449 => ((laws_dice_below.f x436000 x436001 x436002 2).bind fun bt452 => (if 0 ≤ bt452.1 then (if bt452.1 < (y449.length : Int) then (if x5.size + (rdOf ByteArray.empty y449 bt452.1).size ≤ 9223372036854775807 then (laws_FnTop.l1 k x4 (x5 ++ (rdOf ByteArray.empty y449 bt452.1)) x6 (wrap64 (x8 - 1)) x436000 bt452.2.1 bt452.2.2) else (none)) else (none)) else (none)))) else ((laws_dice_below.f x436000 x436001 x436002 3).bind fun bt456 => (laws_FnTop.l2 k x4 x5 x6 bt456.1 x436000 bt456.2.1 bt456.2.2))
def laws_FnTop.l2 : Nat → Int → ByteArray → ByteArray → Int → List Int → Int → Int → Option (Bool)
 | 0, _, _, _, _, _, _, _ => none
 | k + 1, x4, x5, x6, x9, x436000, x436001, x436002 => if x9 > 0 then ((some (([(⟨#[49]⟩ : ByteArray), (⟨#[48]⟩ : ByteArray)] : List ByteArray) : List ByteArray)).bind fun y459 => ((laws_dice_below.f x436000 x436001 x436002 2).bind fun bt462 => (if 0 ≤ bt462.1 then (if bt462.1 < (y459.length : Int) then (if x6.size + (rdOf ByteArray.empty y459 bt462.1).size ≤ 9223372036854775807 then (laws_FnTop.l2 k x4 x5 (x6 ++ (rdOf ByteArray.empty y459 bt462.1)) (wrap64 (x9 - 1)) x436000 bt462.2.1 bt462.2.2) else (none)) else (none)) else (none)))) else ((impl_MatrixOfSteps.f k x4 x5).bind fun bt466 => ((spec_MatrixOfSteps.f k x4 x5).bind fun bt472 => ((impl_FollowSteps.f k x4 0 0 0 x5).bind fun bt478 => ((impl_FollowSteps.f k x4 0 0 0 x6).bind fun bt483 => ((spec_FollowSteps.f k x4 0 0 0 x6).bind fun bt488 => (if bt466.2.2.2.2 = bt472.2.2.2.2 then (if ((!(bt466.1 == bt472.1) || (!(bt466.2.1 == bt472.2.1))) || ((!(bt466.2.2.1 == bt472.2.2.1) || (!(bt466.2.2.2.1 == bt472.2.2.2.1))))) = true then (laws_FnTop.j3 k x4 x6 true bt466.1 bt466.2.1 bt466.2.2.1 bt466.2.2.2.1 bt478.1 bt478.2.1 bt478.2.2.1 bt483.1 bt483.2.1 bt483.2.2.1) else (if bt466.2.2.2.2 = 0 then (if bt478.2.2.2 = 0 then (if bt483.2.2.2 = bt488.2.2.2 then (if bt483.2.2.2 = 0 then (laws_FnTop.j3 k x4 x6 (!(bt483.1 == bt488.1) || (!(bt483.2.1 == bt488.2.1) || (!(bt483.2.2.1 == bt488.2.2.1)))) bt466.1 bt466.2.1 bt466.2.2.1 bt466.2.2.2.1 bt478.1 bt478.2.1 bt478.2.2.1 bt483.1 bt483.2.1 bt483.2.2.1) else (laws_FnTop.j3 k x4 x6 true bt466.1 bt466.2.1 bt466.2.2.1 bt466.2.2.2.1 bt478.1 bt478.2.1 bt478.2.2.1 bt483.1 bt483.2.1 bt483.2.2.1)) else (laws_FnTop.j3 k x4 x6 true bt466.1 bt466.2.1 bt466.2.2.1 bt466.2.2.2.1 bt478.1 bt478.2.1 bt478.2.2.1 bt483.1 bt483.2.1 bt483.2.2.1)) else (laws_FnTop.j3 k x4 x6 true bt466.1 bt466.2.1 bt466.2.2.1 bt466.2.2.2.1 bt478.1 bt478.2.1 bt478.2.2.1 bt483.1 bt483.2.1 bt483.2.2.1)) else (laws_FnTop.j3 k x4 x6 true bt466.1 bt466.2.1 bt466.2.2.1 bt466.2.2.2.1 bt478.1 bt478.2.1 bt478.2.2.1 bt483.1 bt483.2.1 bt483.2.2.1))) else (laws_FnTop.j3 k x4 x6 true bt466.1 bt466.2.1 bt466.2.2.1 bt466.2.2.2.1 bt478.1 bt478.2.1 bt478.2.2.1 bt483.1 bt483.2.1 bt483.2.2.1)))))))
def laws_FnTop.j3 : Nat → Int → ByteArray → Bool → Int → Int → Int → Int → Int → Int → Int → Int → Int → Int → Option (Bool)
 | 0, _, _, _, _, _, _, _, _, _, _, _, _, _ => none
 | k + 1, x4, x6, x139, x472000, x472001, x472002, x472003, x483000, x483001, x483002, x488000, x488001, x488002 => if x139 = true then (none) else ((impl_MoveBall.f k x4 x472000 x472001 x472002 x472003 0 0 0).bind fun bt493 => ((impl_MoveBall.f k x4 x472000 x472001 x472002 x472003 x488000 x488001 x488002).bind fun bt498 => ((impl_FollowSteps.f k x4 x483000 x483001 x483002 x6).bind fun bt503 => (if bt493.2.2.2 = 0 then (if (!(bt493.1 == x483000) || (!(bt493.2.1 == x483001) || (!(bt493.2.2.1 == x483002)))) = true then (laws_FnTop.j4 k x4 true x472000 x472001 x472002 x472003 x483000 x483001 x483002 x488000 x488001 x488002 bt498.1 bt498.2.1 bt498.2.2.1) else (if bt498.2.2.2 = 0 then (if bt503.2.2.2 = 0 then (laws_FnTop.j4 k x4 (!(bt498.1 == bt503.1) || (!(bt498.2.1 == bt503.2.1) || (!(bt498.2.2.1 == bt503.2.2.1)))) x472000 x472001 x472002 x472003 x483000 x483001 x483002 x488000 x488001 x488002 bt498.1 bt498.2.1 bt498.2.2.1) else (laws_FnTop.j4 k x4 true x472000 x472001 x472002 x472003 x483000 x483001 x483002 x488000 x488001 x488002 bt498.1 bt498.2.1 bt498.2.2.1)) else (laws_FnTop.j4 k x4 true x472000 x472001 x472002 x472003 x483000 x483001 x483002 x488000 x488001 x488002 bt498.1 bt498.2.1 bt498.2.2.1))) else (laws_FnTop.j4 k x4 true x472000 x472001 x472002 x472003 x483000 x483001 x483002 x488000 x488001 x488002 bt498.1 bt498.2.1 bt498.2.2.1)))))
def laws_FnTop.j4 : Nat → Int → Bool → Int → Int → Int → Int → Int → Int → Int → Int → Int → Int → Int → Int → Int → Option (Bool)
 | 0, _, _, _, _, _, _, _, _, _, _, _, _, _, _, _ => none
 | k + 1, x4, x180, x472000, x472001, x472002, x472003, x483000, x483001, x483002, x488000, x488001, x488002, x503000, x503001, x503002 => if x180 = true then (none) else ((impl_TreeDistance.f k x4 0 0 0 x488000 x488001 x488002).bind fun bt508 => ((impl_TreeDistance.f k x4 x483000 x483001 x483002 x503000 x503001 x503002).bind fun bt510 => ((impl_InverseMatrix.f k x472000 x472001 x472002 x472003).bind fun bt512 => ((impl_MoveBall.f k x4 bt512.1 bt512.2.1 bt512.2.2.1 bt512.2.2.2.1 x503000 x503001 x503002).bind fun bt518 => (if bt508.2 = 0 then (if bt510.2 = 0 then (if bt508.1 = bt510.1 then (if bt512.2.2.2.2 = 0 then (if bt518.2.2.2 = 0 then (some (bt518.1 == x488000 && (bt518.2.1 == x488001 && (bt518.2.2.1 == x488002)))) else (none)) else (none)) else (none)) else (none)) else (none))))))
end
def laws_FnTop.f (k : Nat) (l0 : List Int) : Option (Bool) := (laws_big.f l0).bind fun t431 => (if t431 = true then (some true) else ((laws_roll.f k l0 9901).bind fun bt432 => ((some (([2, 3, 5] : List Int) : List Int)).bind fun y436 => ((laws_dice_below.f bt432.1 bt432.2.1 bt432.2.2 3).bind fun bt439 => (if 0 ≤ bt439.1 then (if bt439.1 < (y436.length : Int) then ((laws_dice_below.f bt432.1 bt439.2.1 bt439.2.2 3).bind fun bt443 => (laws_FnTop.l0 k (rd y436 bt439.1) (⟨#[]⟩ : ByteArray) (⟨#[]⟩ : ByteArray) bt443.1 bt432.1 bt443.2.1 bt443.2.2)) else (none)) else (none))))))
set_option maxHeartbeats 8000000 in
set_option maxRecDepth 100000 in
theorem laws_FnTop.calls (k : Nat) (A0 : Option Addr) (c0 : Nat) (l0 : List Int) (r : Bool) (w : World) (hr0 : Kd.C (Kd.int .u8) w A0 l0.length l0) (hc0 : l0.length ≤ c0) (h : laws_FnTop.f k l0 = some r) :
  Calls Try.prog 4 #[.slice A0 l0.length c0] w fun e w' => e = .returned (.bool r) ∧ Below w.heap.size w w' := by
 have hu46 := Try.underlying46
 have hu25 := Try.underlying25
 have HR0 := Aside0.mk hr0
 have HC0 := Aside0.mk hc0
 clear hr0 hc0
 have HB := Aside0.mk (Below.refl w.heap.size w)
 have H : ((laws_big.f l0).bind fun t431 => (if t431 = true then (some true) else ((laws_roll.f k l0 9901).bind fun bt432 => ((some (([2, 3, 5] : List Int) : List Int)).bind fun y436 => ((laws_dice_below.f bt432.1 bt432.2.1 bt432.2.2 3).bind fun bt439 => (if 0 ≤ bt439.1 then (if bt439.1 < (y436.length : Int) then ((laws_dice_below.f bt432.1 bt439.2.1 bt439.2.2 3).bind fun bt443 => (laws_FnTop.l0 k (rd y436 bt439.1) (⟨#[]⟩ : ByteArray) (⟨#[]⟩ : ByteArray) bt443.1 bt432.1 bt443.2.1 bt443.2.2)) else (none)) else (none))))))) = some r := h
 clear h
 replace H := ob_ H
 obtain ⟨t431, A20, H⟩ := H
 have A2 := Aside0.mk A20
 clear A20
 by_cases c3 : t431 = true
 ·subst c3
  have H1 : (some true) = some r := by rw [if_pos rfl] at H; exact H
  clear H
  have H := H1
  clear H1
  obtain rfl := si_ H
  go_enter Try.func4, Try.ntmps4
  go_wp2_with (first | ((refine gc_ 8 ?_); refine ge_ 35 Try.func8 #[.slice A0 l0.length c0] ?_; (with_reducible refine (laws_big.calls _ _ l0 true _ ?side1 ?side2 A2.out).mono ?_); (case side1 => exact ca_ HR0.out); (case side2 => exact HC0.out); rintro e w' ⟨rfl, ⟨nd, rfl⟩⟩; refine ⟨_, rfl, ?_⟩))
  go_ret
  exact ⟨es_, (bw_ HB).out⟩
 ·replace c3 := Bool.eq_false_iff.mpr c3
  subst c3
  have H1 : ((laws_roll.f k l0 9901).bind fun bt432 => ((some (([2, 3, 5] : List Int) : List Int)).bind fun y436 => ((laws_dice_below.f bt432.1 bt432.2.1 bt432.2.2 3).bind fun bt439 => (if 0 ≤ bt439.1 then (if bt439.1 < (y436.length : Int) then ((laws_dice_below.f bt432.1 bt439.2.1 bt439.2.2 3).bind fun bt443 => (laws_FnTop.l0 k (rd y436 bt439.1) (⟨#[]⟩ : ByteArray) (⟨#[]⟩ : ByteArray) bt443.1 bt432.1 bt443.2.1 bt443.2.2)) else (none)) else (none))))) = some r := by rw [if_neg (show ¬ (false = true) by decide)] at H; exact H
  clear H
  have H := H1
  clear H1
  replace H := ob_ H
  obtain ⟨⟨t432, t433, t434⟩, A40, H⟩ := H
  have A4 := Aside0.mk A40
  clear A40
  obtain ⟨y436, hy436⟩ : ∃ y_ : List Int, y_ = (([2, 3, 5] : List Int)) := ⟨_, rfl⟩
  replace H : ((laws_dice_below.f t432 t433 t434 3).bind fun bt439 => (if 0 ≤ bt439.1 then (if bt439.1 < (y436.length : Int) then ((laws_dice_below.f t432 bt439.2.1 bt439.2.2 3).bind fun bt443 => (laws_FnTop.l0 k (rd y436 bt439.1) (⟨#[]⟩ : ByteArray) (⟨#[]⟩ : ByteArray) bt443.1 t432 bt443.2.1 bt443.2.2)) else (none)) else (none))) = some r := by first | (rw [hy436]; with_reducible exact H) | (have H2_ := (Option.bind_some _ _).symm.trans H; rw [hy436]; with_reducible exact H2_) | (have H2_ := (Option.bind_some _ _).symm.trans H; with_reducible exact H2_) | with_reducible exact H | (rw [hy436]; exact H) | exact H
  have Ny436 := Aside0.mk hy436
  clear hy436
  replace H := ob_ H
  obtain ⟨⟨t439, t440, t441⟩, A50, H⟩ := H
  have A5 := Aside0.mk A50
  clear A50
  by_cases c6 : 0 ≤ t439
  ·rw [if_pos c6] at H
   have c6b0 : decide (0 ≤ t439) = true := decide_eq_true c6
   clear c6
   by_cases c7 : t439 < (y436.length : Int)
   ·rw [if_pos c7] at H
    have c7b0 : decide (t439 < (y436.length : Int)) = true := decide_eq_true c7
    clear c7
    replace H := ob_ H
    obtain ⟨⟨t443, t444, t445⟩, A80, H⟩ := H
    have A8 := Aside0.mk A80
    clear A80
    have H' := Aside0.mk H
    clear H
    go_enter Try.func4, Try.ntmps4
    go_wp2_with (first | ((refine gc_ 8 ?_); refine ge_ 35 Try.func8 #[.slice A0 l0.length c0] ?_; (with_reducible refine (laws_big.calls _ _ l0 false _ ?side1 ?side2 A2.out).mono ?_); (case side1 => exact ca_ HR0.out); (case side2 => exact HC0.out); rintro e w' ⟨rfl, ⟨nd, rfl⟩⟩; refine ⟨_, rfl, ?_⟩) | ((refine gc_ 20 ?_); refine ge_ 37 Try.func20 #[.slice A0 l0.length c0, .int .u64 9901] ?_; (with_reducible refine (laws_roll.calls k _ _ l0 9901 t432 t433 t434 w _ ?side1 ?side2 ?side3 A4.out).mono ?_); (case side1 => repeat (first | (with_reducible first | exact HB.out | apply below_alloc | apply pw_below_drewN | apply below_drew1) | exact HB.out)); (case side2 => exact HR0.out); (case side3 => exact HC0.out); rintro e w9 ⟨g435, rfl, hi, hb, hb2⟩; refine ⟨_, rfl, ?_⟩; have HI435 := Aside0.mk (hi); replace HB := Aside0.mk (hb); (try clear hb); (try clear hb2); (try clear hi)) | ((refine gd_ 38 ?_); refine Kd.R_lit (Kd.int .i64) _ 2 ?hg (N := 38) ?hd (xs := ([2, 3, 5] : List Int)) (inner := [.int .i64 2, .int .i64 3, .int .i64 5]) (ok := fun _ => True) (okp := fun _ => True) ?hr ?hp (fun _ hk => hk) trivial (Below.refl _ _) (Nat.le_refl _) (by simp) ?_; (case hd => rfl); (case hg => rfl); (case hr => first | (go_simp; done) | (go_simp; rfl)); (case hp => exact (Reps.one (show Kd.M (Kd.int .i64) _ _ _ 2 [.int .i64 2] from rfl) (Reps.one (show Kd.M (Kd.int .i64) _ _ _ 3 [.int .i64 3] from rfl) (Reps.one (show Kd.M (Kd.int .i64) _ _ _ 5 [.int .i64 5] from rfl) (Reps.none _ _))))); intro v437 w10 ho11 hb hg_ hnew_; clear hg_ hnew_; (first | rw [← Ny436.out] at ho11 | (simp only [Int.reduceToNat] at ho11; rw [← Ny436.out] at ho11)); have HO438 := Aside0.mk (Kd.R_lower ho11 (below_size (by repeat (first | (with_reducible first | exact HB.out | apply below_alloc | apply pw_below_drewN | apply below_drew1 | refine below_set ?_ (IsS119.ge HI435.out)) | exact HB.out)))); replace HB := Aside0.mk (below_step (by repeat (first | (with_reducible first | exact HB.out | apply below_alloc | apply pw_below_drewN | apply below_drew1 | refine below_set ?_ (IsS119.ge HI435.out)) | exact HB.out)) hb); replace HI435 := Aside0.mk (IsS119.below (by repeat (first | (with_reducible first | exact HI435.out | apply IsS119.alloc | apply IsS119.drewN | apply IsS119.drew | apply IsS119.set_1 | apply IsS119.set_2) | exact HI435.out)) hb); clear hb ho11) | ((refine gc_ 21 ?_); refine ge_ 40 Try.func21 #[.pointer (some ⟨g435, 0, none⟩), .int .i64 3] ?_; (with_reducible refine (laws_dice_below.calls g435 t432 t433 t434 3 t439 t440 t441 w _ ?side1 ?side2 A5.out).mono ?_); (case side1 => repeat (first | (with_reducible first | exact HI435.out | apply IsS119.alloc | apply IsS119.drewN | apply IsS119.drew | apply IsS119.set_1 | apply IsS119.set_2) | exact HI435.out)); (case side2 => repeat (first | (with_reducible first | exact HB.out | apply below_alloc | apply pw_below_drewN | apply below_drew1 | refine below_set ?_ (IsS119.ge HI435.out)) | exact HB.out)); rintro e w12 ⟨rfl, hi, hb, hk⟩; refine ⟨_, rfl, ?_⟩; replace HO438 := Aside0.mk (Kd.R_mono (Kd.R_keep (IsS119.apart (show IsS119 w _ g435 t432 t433 t434 from by repeat (first | (with_reducible first | exact HI435.out | apply IsS119.alloc | apply IsS119.drewN | apply IsS119.drew | apply IsS119.set_1 | apply IsS119.set_2) | exact HI435.out)) (ra_ HO438.out) (by decide)) hk (fun _ h => h.2)) (fun _ h => h.1)); replace HB := Aside0.mk (hb); replace HI435 := Aside0.mk (hi); (try clear hb); (try clear hk); (try clear hi); obtain ⟨Ao13, co13, eo13⟩ := Kd.R_slice HO438.out; subst eo13; have p442 : 0 ≤ (t439 : Int) := od_; have q442 : t439 < (y436.length : Int) := od_; obtain ⟨ad442, e442, hx442_0⟩ := Kd.at_int (Kd.R_reads' HO438.out).2.2 t439 p442 q442; cases e442; replace p442 := eq_true p442; replace q442 := eq_true q442) | ((refine gc_ 21 ?_); refine ge_ 44 Try.func21 #[.pointer (some ⟨g435, 0, none⟩), .int .i64 3] ?_; (with_reducible refine (laws_dice_below.calls g435 t432 t440 t441 3 t443 t444 t445 w _ ?side1 ?side2 A8.out).mono ?_); (case side1 => repeat (first | (with_reducible first | exact HI435.out | apply IsS119.alloc | apply IsS119.drewN | apply IsS119.drew | apply IsS119.set_1 | apply IsS119.set_2) | exact HI435.out)); (case side2 => repeat (first | (with_reducible first | exact HB.out | apply below_alloc | apply pw_below_drewN | apply below_drew1 | refine below_set ?_ (IsS119.ge HI435.out)) | exact HB.out)); rintro e w14 ⟨rfl, hi, hb, hk⟩; refine ⟨_, rfl, ?_⟩; replace HO438 := Aside0.mk (Kd.R_mono (Kd.R_keep (IsS119.apart (show IsS119 w _ g435 t432 t440 t441 from by repeat (first | (with_reducible first | exact HI435.out | apply IsS119.alloc | apply IsS119.drewN | apply IsS119.drew | apply IsS119.set_1 | apply IsS119.set_2) | exact HI435.out)) (ra_ HO438.out) (by decide)) hk (fun _ h => h.2)) (fun _ h => h.1)); replace HB := Aside0.mk (hb); replace HI435 := Aside0.mk (hi); (try clear hb); (try clear hk); (try clear hi)))
    go_loopg [5, 7] k (fun kq v5 v7 w' => ∃ (x5_1 : ByteArray) (x7_1 : Int), v5 = .string x5_1 ∧ v7 = .int .i64 x7_1 ∧ Aside0 (laws_FnTop.l0 kq (rd y436 t439) x5_1 (⟨#[]⟩ : ByteArray) x7_1 t432 t444 t445 = some r) ∧ Aside0 (kq ≤ k) ∧ Aside0 (IsS119 w w' g435 t432 t444 t445) ∧ Aside0 (Below w.heap.size w w'))
    case atStart => exact ⟨((⟨#[]⟩ : ByteArray)), (t443), en_, en_, H', ⟨Nat.le_refl _⟩, ⟨by repeat (first | (with_reducible first | exact HI435.out | apply IsS119.alloc | apply IsS119.drewN | apply IsS119.drew | apply IsS119.set_1 | apply IsS119.set_2) | exact HI435.out)⟩, ⟨by repeat (first | (with_reducible first | exact HB.out | apply below_alloc | apply pw_below_drewN | apply below_drew1 | refine below_set ?_ (IsS119.ge HI435.out)) | exact HB.out)⟩⟩
    case round => as_aux_lemma =>
     clear H'
     try clear c2
     try clear p2
     try clear c3
     try clear c4
     try clear p4
     try clear q4
     try clear hx4
     try clear c6
     try clear c6b0
     try clear c7
     try clear c7b0
     try clear c8
     try clear hx442_0
     try clear p442
     try clear q442
     obtain ⟨x5_1, x7_1, rfl, rfl, HA, HK1, HI435, HB⟩ := hrel
     cases gk with
     | zero => exact absurd HA.out (by simp [laws_FnTop.l0])
     | succ k1 =>
      have H := HA.out
      clear HA
      simp only [laws_FnTop.l0] at H
      by_cases c15 : x7_1 > 0
      ·rw [if_pos c15] at H
       have c15b0 : decide (0 < x7_1) = true := decide_eq_true c15
       clear c15
       by_cases c16 : x5_1.size + 1 ≤ 9223372036854775807
       ·rw [if_pos c16] at H
        have c16b0 := eq_true c16
        have c16b1 : decide (x5_1.size + 1 ≤ 9223372036854775807) = true := decide_eq_true c16
        try have c16b2 : (9223372036854775807 < x5_1.size + 1) = False := eq_false (Nat.not_lt.2 c16)
        have H' := Aside0.mk H
        clear H
        go_wp2
        go_roundg k1
        case measure => have := HK1.out; omega
        case rel => exact ⟨(x5_1 ++ (⟨#[117]⟩ : ByteArray)), (wrap64 (x7_1 - 1)), en_, en_, H', ⟨by have := HK1.out; omega⟩, ⟨by repeat (first | (with_reducible first | exact HI435.out | apply IsS119.alloc | apply IsS119.drewN | apply IsS119.drew | apply IsS119.set_1 | apply IsS119.set_2) | exact HI435.out)⟩, ⟨by repeat (first | (with_reducible first | exact HB.out | apply below_alloc | apply pw_below_drewN | apply below_drew1 | refine below_set ?_ (IsS119.ge HI435.out)) | exact HB.out)⟩⟩
       ·rw [if_neg c16] at H
        exact absurd H (by simp)
      ·rw [if_neg c15] at H
       have c15b0 : decide (0 < x7_1) = false := decide_eq_false c15
       clear c15
       replace H := ob_ H
       obtain ⟨⟨t446, t447, t448⟩, A170, H⟩ := H
       have A17 := Aside0.mk A170
       clear A170
       have H' := Aside0.mk H
       clear H
       go_wp2_with (first | ((refine gc_ 21 ?_); refine ge_ 52 Try.func21 #[.pointer (some ⟨g435, 0, none⟩), .int .i64 3] ?_; (with_reducible refine (laws_dice_below.calls g435 t432 t444 t445 3 t446 t447 t448 w _ ?side1 ?side2 A17.out).mono ?_); (case side1 => repeat (first | (with_reducible first | exact HI435.out | apply IsS119.alloc | apply IsS119.drewN | apply IsS119.drew | apply IsS119.set_1 | apply IsS119.set_2) | exact HI435.out)); (case side2 => repeat (first | (with_reducible first | exact HB.out | apply below_alloc | apply pw_below_drewN | apply below_drew1 | refine below_set ?_ (IsS119.ge HI435.out)) | exact HB.out)); rintro e w18 ⟨rfl, hi, hb, hk⟩; refine ⟨_, rfl, ?_⟩; replace HB := Aside0.mk (hb); replace HI435 := Aside0.mk (hi); (try clear hb); (try clear hk); (try clear hi)))
       go_loopg [5, 8] k1 (fun kq v5 v8 w' => ∃ (x5_2 : ByteArray) (x8_2 : Int) (x436001_2 : Int) (x436002_2 : Int), v5 = .string x5_2 ∧ v8 = .int .i64 x8_2 ∧ Aside0 (laws_FnTop.l1 kq (rd y436 t439) x5_2 (⟨#[]⟩ : ByteArray) x8_2 t432 x436001_2 x436002_2 = some r) ∧ Aside0 (kq ≤ k1) ∧ Aside0 (IsS119 w w' g435 t432 x436001_2 x436002_2) ∧ Aside0 (Below w.heap.size w w'))
       case atStart => exact ⟨(x5_1), (t446), (t447), (t448), en_, en_, H', ⟨Nat.le_refl _⟩, ⟨by repeat (first | (with_reducible first | exact HI435.out | apply IsS119.alloc | apply IsS119.drewN | apply IsS119.drew | apply IsS119.set_1 | apply IsS119.set_2) | exact HI435.out)⟩, ⟨by repeat (first | (with_reducible first | exact HB.out | apply below_alloc | apply pw_below_drewN | apply below_drew1 | refine below_set ?_ (IsS119.ge HI435.out)) | exact HB.out)⟩⟩
       case round => as_aux_lemma =>
        clear H'
        try clear c1
        try clear c2
        try clear p2
        try clear c3
        try clear c4
        try clear p4
        try clear q4
        try clear hx4
        try clear c6
        try clear c6b0
        try clear p6
        try clear c7
        try clear c7b0
        try clear c8
        try clear c15
        try clear c15b0
        try clear c16
        try clear c16b0
        try clear c16b1
        try clear c16b2
        try clear hx442_0
        try clear p2
        try clear p4
        try clear p442
        try clear q4
        try clear q442
        obtain ⟨x5_2, x8_2, x436001_2, x436002_2, rfl, rfl, HA, HK2, HI435, HB⟩ := hrel
        cases gk with
        | zero => exact absurd HA.out (by simp [laws_FnTop.l1])
        | succ k2 =>
         have H := HA.out
         clear HA
         simp only [laws_FnTop.l1] at H
         by_cases c19 : x8_2 > 0
         ·rw [if_pos c19] at H
          have c19b0 : decide (0 < x8_2) = true := decide_eq_true c19
          clear c19
          obtain ⟨y449, hy449⟩ : ∃ y_ : List ByteArray, y_ = (([(⟨#[48]⟩ : ByteArray), (⟨#[49]⟩ : ByteArray)] : List ByteArray)) := ⟨_, rfl⟩
          replace H : ((laws_dice_below.f t432 x436001_2 x436002_2 2).bind fun bt452 => (if 0 ≤ bt452.1 then (if bt452.1 < (y449.length : Int) then (if x5_2.size + (rdOf ByteArray.empty y449 bt452.1).size ≤ 9223372036854775807 then (laws_FnTop.l1 k2 (rd y436 t439) (x5_2 ++ (rdOf ByteArray.empty y449 bt452.1)) (⟨#[]⟩ : ByteArray) (wrap64 (x8_2 - 1)) t432 bt452.2.1 bt452.2.2) else (none)) else (none)) else (none))) = some r := by first | (rw [hy449]; with_reducible exact H) | (have H2_ := (Option.bind_some _ _).symm.trans H; rw [hy449]; with_reducible exact H2_) | (have H2_ := (Option.bind_some _ _).symm.trans H; with_reducible exact H2_) | with_reducible exact H | (rw [hy449]; exact H) | exact H
          have Ny449 := Aside0.mk hy449
          clear hy449
          replace H := ob_ H
          obtain ⟨⟨t452, t453, t454⟩, A200, H⟩ := H
          have A20 := Aside0.mk A200
          clear A200
          by_cases c21 : 0 ≤ t452
          ·rw [if_pos c21] at H
           have c21b0 : decide (0 ≤ t452) = true := decide_eq_true c21
           clear c21
           by_cases c22 : t452 < (y449.length : Int)
           ·rw [if_pos c22] at H
            have c22b0 : decide (t452 < (y449.length : Int)) = true := decide_eq_true c22
            clear c22
            by_cases c23 : x5_2.size + (rdOf ByteArray.empty y449 t452).size ≤ 9223372036854775807
            ·rw [if_pos c23] at H
             have c23b0 := eq_true c23
             have c23b1 : decide (x5_2.size + (rdOf ByteArray.empty y449 t452).size ≤ 9223372036854775807) = true := decide_eq_true c23
             try have c23b2 : (9223372036854775807 < x5_2.size + (rdOf ByteArray.empty y449 t452).size) = False := eq_false (Nat.not_lt.2 c23)
             have H' := Aside0.mk H
             clear H
             go_wp2_with (first | ((refine gd_ 58 ?_); refine Kd.R_lit Kd.string _ 9 ?hg (N := 58) ?hd (xs := ([(⟨#[48]⟩ : ByteArray), (⟨#[49]⟩ : ByteArray)] : List ByteArray)) (inner := [.string (⟨#[48]⟩ : ByteArray), .string (⟨#[49]⟩ : ByteArray)]) (ok := fun _ => True) (okp := fun _ => True) ?hr ?hp (fun _ hk => hk) trivial (Below.refl _ _) (Nat.le_refl _) (by simp) ?_; (case hd => rfl); (case hg => rfl); (case hr => first | (go_simp; done) | (go_simp; rfl)); (case hp => exact (Reps.one (show Kd.M Kd.string _ _ _ (⟨#[48]⟩ : ByteArray) [.string (⟨#[48]⟩ : ByteArray)] from rfl) (Reps.one (show Kd.M Kd.string _ _ _ (⟨#[49]⟩ : ByteArray) [.string (⟨#[49]⟩ : ByteArray)] from rfl) (Reps.none _ _)))); intro v450 w24 ho25 hb hg_ hnew_; clear hg_ hnew_; (first | rw [← Ny449.out] at ho25 | (simp only [Int.reduceToNat] at ho25; rw [← Ny449.out] at ho25)); have HO451 := Aside0.mk (Kd.R_lower ho25 (below_size (by repeat (first | (with_reducible first | exact HB.out | apply below_alloc | apply pw_below_drewN | apply below_drew1 | refine below_set ?_ (IsS119.ge HI435.out)) | exact HB.out)))); replace HB := Aside0.mk (below_step (by repeat (first | (with_reducible first | exact HB.out | apply below_alloc | apply pw_below_drewN | apply below_drew1 | refine below_set ?_ (IsS119.ge HI435.out)) | exact HB.out)) hb); replace HI435 := Aside0.mk (IsS119.below (by repeat (first | (with_reducible first | exact HI435.out | apply IsS119.alloc | apply IsS119.drewN | apply IsS119.drew | apply IsS119.set_1 | apply IsS119.set_2) | exact HI435.out)) hb); clear hb ho25) | ((refine gc_ 21 ?_); refine ge_ 60 Try.func21 #[.pointer (some ⟨g435, 0, none⟩), .int .i64 2] ?_; (with_reducible refine (laws_dice_below.calls g435 t432 x436001_2 x436002_2 2 t452 t453 t454 w _ ?side1 ?side2 A20.out).mono ?_); (case side1 => repeat (first | (with_reducible first | exact HI435.out | apply IsS119.alloc | apply IsS119.drewN | apply IsS119.drew | apply IsS119.set_1 | apply IsS119.set_2) | exact HI435.out)); (case side2 => repeat (first | (with_reducible first | exact HB.out | apply below_alloc | apply pw_below_drewN | apply below_drew1 | refine below_set ?_ (IsS119.ge HI435.out)) | exact HB.out)); rintro e w26 ⟨rfl, hi, hb, hk⟩; refine ⟨_, rfl, ?_⟩; replace HO451 := Aside0.mk (Kd.R_mono (Kd.R_keep (IsS119.apart (show IsS119 w _ g435 t432 x436001_2 x436002_2 from by repeat (first | (with_reducible first | exact HI435.out | apply IsS119.alloc | apply IsS119.drewN | apply IsS119.drew | apply IsS119.set_1 | apply IsS119.set_2) | exact HI435.out)) (ra_ HO451.out) (by decide)) hk (fun _ h => h.2)) (fun _ h => h.1)); replace HB := Aside0.mk (hb); replace HI435 := Aside0.mk (hi); (try clear hb); (try clear hk); (try clear hi); obtain ⟨Ao27, co27, eo27⟩ := Kd.R_slice HO451.out; subst eo27; have p455 : 0 ≤ (t452 : Int) := od_; have q455 : t452 < (y449.length : Int) := od_; obtain ⟨ad455, e455, hx455_0⟩ := Kd.at_string (Kd.R_reads' HO451.out).2.2 t452 p455 q455; cases e455; replace p455 := eq_true p455; replace q455 := eq_true q455))
             go_roundg k2
             case measure => have := HK1.out; have := HK2.out; omega
             case rel => exact ⟨(x5_2 ++ (rdOf ByteArray.empty y449 t452)), (wrap64 (x8_2 - 1)), (t453), (t454), en_, en_, H', ⟨by have := HK1.out; have := HK2.out; omega⟩, ⟨by repeat (first | (with_reducible first | exact HI435.out | apply IsS119.alloc | apply IsS119.drewN | apply IsS119.drew | apply IsS119.set_1 | apply IsS119.set_2) | exact HI435.out)⟩, ⟨by repeat (first | (with_reducible first | exact HB.out | apply below_alloc | apply pw_below_drewN | apply below_drew1 | refine below_set ?_ (IsS119.ge HI435.out)) | exact HB.out)⟩⟩
            ·rw [if_neg c23] at H
             exact absurd H (by simp)
           ·rw [if_neg c22] at H
            exact absurd H (by simp)
          ·rw [if_neg c21] at H
           exact absurd H (by simp)
         ·rw [if_neg c19] at H
          have c19b0 : decide (0 < x8_2) = false := decide_eq_false c19
          clear c19
          replace H := ob_ H
          obtain ⟨⟨t456, t457, t458⟩, A280, H⟩ := H
          have A28 := Aside0.mk A280
          clear A280
          have H' := Aside0.mk H
          clear H
          go_wp2_with (first | ((refine gc_ 21 ?_); refine ge_ 65 Try.func21 #[.pointer (some ⟨g435, 0, none⟩), .int .i64 3] ?_; (with_reducible refine (laws_dice_below.calls g435 t432 x436001_2 x436002_2 3 t456 t457 t458 w _ ?side1 ?side2 A28.out).mono ?_); (case side1 => repeat (first | (with_reducible first | exact HI435.out | apply IsS119.alloc | apply IsS119.drewN | apply IsS119.drew | apply IsS119.set_1 | apply IsS119.set_2) | exact HI435.out)); (case side2 => repeat (first | (with_reducible first | exact HB.out | apply below_alloc | apply pw_below_drewN | apply below_drew1 | refine below_set ?_ (IsS119.ge HI435.out)) | exact HB.out)); rintro e w29 ⟨rfl, hi, hb, hk⟩; refine ⟨_, rfl, ?_⟩; replace HB := Aside0.mk (hb); replace HI435 := Aside0.mk (hi); (try clear hb); (try clear hk); (try clear hi)))
          go_loopg [6, 9] k2 (fun kq v6 v9 w' => ∃ (x6_3 : ByteArray) (x9_3 : Int) (x436001_3 : Int) (x436002_3 : Int), v6 = .string x6_3 ∧ v9 = .int .i64 x9_3 ∧ Aside0 (laws_FnTop.l2 kq (rd y436 t439) x5_2 x6_3 x9_3 t432 x436001_3 x436002_3 = some r) ∧ Aside0 (kq ≤ k2) ∧ Aside0 (IsS119 w w' g435 t432 x436001_3 x436002_3) ∧ Aside0 (Below w.heap.size w w'))
          case atStart => exact ⟨((⟨#[]⟩ : ByteArray)), (t456), (t457), (t458), en_, en_, H', ⟨Nat.le_refl _⟩, ⟨by repeat (first | (with_reducible first | exact HI435.out | apply IsS119.alloc | apply IsS119.drewN | apply IsS119.drew | apply IsS119.set_1 | apply IsS119.set_2) | exact HI435.out)⟩, ⟨by repeat (first | (with_reducible first | exact HB.out | apply below_alloc | apply pw_below_drewN | apply below_drew1 | refine below_set ?_ (IsS119.ge HI435.out)) | exact HB.out)⟩⟩
          case round => as_aux_lemma =>
           clear H'
           try clear c1
           try clear c2
           try clear p2
           try clear c3
           try clear c4
           try clear p4
           try clear q4
           try clear hx4
           try clear c6
           try clear c6b0
           try clear p6
           try clear c7
           try clear c7b0
           try clear c8
           try clear c15
           try clear c15b0
           try clear c16
           try clear c16b0
           try clear c16b1
           try clear c16b2
           try clear c19
           try clear c19b0
           try clear c20
           try clear c21
           try clear c21b0
           try clear c22
           try clear c22b0
           try clear c23
           try clear c23b0
           try clear c23b1
           try clear c23b2
           try clear hx442_0
           try clear hx455_0
           try clear p2
           try clear p4
           try clear p442
           try clear p455
           try clear p6
           try clear q4
           try clear q442
           try clear q455
           obtain ⟨x6_3, x9_3, x436001_3, x436002_3, rfl, rfl, HA, HK3, HI435, HB⟩ := hrel
           cases gk with
           | zero => exact absurd HA.out (by simp [laws_FnTop.l2])
           | succ k3 =>
            have H := HA.out
            clear HA
            simp only [laws_FnTop.l2] at H
            by_cases c30 : x9_3 > 0
            ·rw [if_pos c30] at H
             have c30b0 : decide (0 < x9_3) = true := decide_eq_true c30
             clear c30
             obtain ⟨y459, hy459⟩ : ∃ y_ : List ByteArray, y_ = (([(⟨#[49]⟩ : ByteArray), (⟨#[48]⟩ : ByteArray)] : List ByteArray)) := ⟨_, rfl⟩
             replace H : ((laws_dice_below.f t432 x436001_3 x436002_3 2).bind fun bt462 => (if 0 ≤ bt462.1 then (if bt462.1 < (y459.length : Int) then (if x6_3.size + (rdOf ByteArray.empty y459 bt462.1).size ≤ 9223372036854775807 then (laws_FnTop.l2 k3 (rd y436 t439) x5_2 (x6_3 ++ (rdOf ByteArray.empty y459 bt462.1)) (wrap64 (x9_3 - 1)) t432 bt462.2.1 bt462.2.2) else (none)) else (none)) else (none))) = some r := by first | (rw [hy459]; with_reducible exact H) | (have H2_ := (Option.bind_some _ _).symm.trans H; rw [hy459]; with_reducible exact H2_) | (have H2_ := (Option.bind_some _ _).symm.trans H; with_reducible exact H2_) | with_reducible exact H | (rw [hy459]; exact H) | exact H
             have Ny459 := Aside0.mk hy459
             clear hy459
             replace H := ob_ H
             obtain ⟨⟨t462, t463, t464⟩, A310, H⟩ := H
             have A31 := Aside0.mk A310
             clear A310
             by_cases c32 : 0 ≤ t462
             ·rw [if_pos c32] at H
              have c32b0 : decide (0 ≤ t462) = true := decide_eq_true c32
              clear c32
              by_cases c33 : t462 < (y459.length : Int)
              ·rw [if_pos c33] at H
               have c33b0 : decide (t462 < (y459.length : Int)) = true := decide_eq_true c33
               clear c33
               by_cases c34 : x6_3.size + (rdOf ByteArray.empty y459 t462).size ≤ 9223372036854775807
               ·rw [if_pos c34] at H
                have c34b0 := eq_true c34
                have c34b1 : decide (x6_3.size + (rdOf ByteArray.empty y459 t462).size ≤ 9223372036854775807) = true := decide_eq_true c34
                try have c34b2 : (9223372036854775807 < x6_3.size + (rdOf ByteArray.empty y459 t462).size) = False := eq_false (Nat.not_lt.2 c34)
                have H' := Aside0.mk H
                clear H
                go_wp2_with (first | ((refine gd_ 71 ?_); refine Kd.R_lit Kd.string _ 9 ?hg (N := 71) ?hd (xs := ([(⟨#[49]⟩ : ByteArray), (⟨#[48]⟩ : ByteArray)] : List ByteArray)) (inner := [.string (⟨#[49]⟩ : ByteArray), .string (⟨#[48]⟩ : ByteArray)]) (ok := fun _ => True) (okp := fun _ => True) ?hr ?hp (fun _ hk => hk) trivial (Below.refl _ _) (Nat.le_refl _) (by simp) ?_; (case hd => rfl); (case hg => rfl); (case hr => first | (go_simp; done) | (go_simp; rfl)); (case hp => exact (Reps.one (show Kd.M Kd.string _ _ _ (⟨#[49]⟩ : ByteArray) [.string (⟨#[49]⟩ : ByteArray)] from rfl) (Reps.one (show Kd.M Kd.string _ _ _ (⟨#[48]⟩ : ByteArray) [.string (⟨#[48]⟩ : ByteArray)] from rfl) (Reps.none _ _)))); intro v460 w35 ho36 hb hg_ hnew_; clear hg_ hnew_; (first | rw [← Ny459.out] at ho36 | (simp only [Int.reduceToNat] at ho36; rw [← Ny459.out] at ho36)); have HO461 := Aside0.mk (Kd.R_lower ho36 (below_size (by repeat (first | (with_reducible first | exact HB.out | apply below_alloc | apply pw_below_drewN | apply below_drew1 | refine below_set ?_ (IsS119.ge HI435.out)) | exact HB.out)))); replace HB := Aside0.mk (below_step (by repeat (first | (with_reducible first | exact HB.out | apply below_alloc | apply pw_below_drewN | apply below_drew1 | refine below_set ?_ (IsS119.ge HI435.out)) | exact HB.out)) hb); replace HI435 := Aside0.mk (IsS119.below (by repeat (first | (with_reducible first | exact HI435.out | apply IsS119.alloc | apply IsS119.drewN | apply IsS119.drew | apply IsS119.set_1 | apply IsS119.set_2) | exact HI435.out)) hb); clear hb ho36) | ((refine gc_ 21 ?_); refine ge_ 73 Try.func21 #[.pointer (some ⟨g435, 0, none⟩), .int .i64 2] ?_; (with_reducible refine (laws_dice_below.calls g435 t432 x436001_3 x436002_3 2 t462 t463 t464 w _ ?side1 ?side2 A31.out).mono ?_); (case side1 => repeat (first | (with_reducible first | exact HI435.out | apply IsS119.alloc | apply IsS119.drewN | apply IsS119.drew | apply IsS119.set_1 | apply IsS119.set_2) | exact HI435.out)); (case side2 => repeat (first | (with_reducible first | exact HB.out | apply below_alloc | apply pw_below_drewN | apply below_drew1 | refine below_set ?_ (IsS119.ge HI435.out)) | exact HB.out)); rintro e w37 ⟨rfl, hi, hb, hk⟩; refine ⟨_, rfl, ?_⟩; replace HO461 := Aside0.mk (Kd.R_mono (Kd.R_keep (IsS119.apart (show IsS119 w _ g435 t432 x436001_3 x436002_3 from by repeat (first | (with_reducible first | exact HI435.out | apply IsS119.alloc | apply IsS119.drewN | apply IsS119.drew | apply IsS119.set_1 | apply IsS119.set_2) | exact HI435.out)) (ra_ HO461.out) (by decide)) hk (fun _ h => h.2)) (fun _ h => h.1)); replace HB := Aside0.mk (hb); replace HI435 := Aside0.mk (hi); (try clear hb); (try clear hk); (try clear hi); obtain ⟨Ao38, co38, eo38⟩ := Kd.R_slice HO461.out; subst eo38; have p465 : 0 ≤ (t462 : Int) := od_; have q465 : t462 < (y459.length : Int) := od_; obtain ⟨ad465, e465, hx465_0⟩ := Kd.at_string (Kd.R_reads' HO461.out).2.2 t462 p465 q465; cases e465; replace p465 := eq_true p465; replace q465 := eq_true q465))
                go_roundg k3
                case measure => have := HK1.out; have := HK2.out; have := HK3.out; omega
                case rel => exact ⟨(x6_3 ++ (rdOf ByteArray.empty y459 t462)), (wrap64 (x9_3 - 1)), (t463), (t464), en_, en_, H', ⟨by have := HK1.out; have := HK2.out; have := HK3.out; omega⟩, ⟨by repeat (first | (with_reducible first | exact HI435.out | apply IsS119.alloc | apply IsS119.drewN | apply IsS119.drew | apply IsS119.set_1 | apply IsS119.set_2) | exact HI435.out)⟩, ⟨by repeat (first | (with_reducible first | exact HB.out | apply below_alloc | apply pw_below_drewN | apply below_drew1 | refine below_set ?_ (IsS119.ge HI435.out)) | exact HB.out)⟩⟩
               ·rw [if_neg c34] at H
                exact absurd H (by simp)
              ·rw [if_neg c33] at H
               exact absurd H (by simp)
             ·rw [if_neg c32] at H
              exact absurd H (by simp)
            ·rw [if_neg c30] at H
             have c30b0 : decide (0 < x9_3) = false := decide_eq_false c30
             clear c30
             replace H := ob_ H
             obtain ⟨⟨t466, t467, t468, t469, t470⟩, A390, H⟩ := H
             have A39 := Aside0.mk A390
             clear A390
             replace H := ob_ H
             obtain ⟨⟨t472, t473, t474, t475, t476⟩, A400, H⟩ := H
             have A40 := Aside0.mk A400
             clear A400
             replace H := ob_ H
             obtain ⟨⟨t478, t479, t480, t481⟩, A410, H⟩ := H
             have A41 := Aside0.mk A410
             clear A410
             replace H := ob_ H
             obtain ⟨⟨t483, t484, t485, t486⟩, A420, H⟩ := H
             have A42 := Aside0.mk A420
             clear A420
             replace H := ob_ H
             obtain ⟨⟨t488, t489, t490, t491⟩, A430, H⟩ := H
             have A43 := Aside0.mk A430
             clear A430
             have HC44 := Aside0.mk H
             clear H
             go_upto_region 23 with (first | ((refine gc_ 22 ?_); refine ge_ 80 Try.func22 #[.int .i64 (rd y436 t439), .string x5_2] ?_; (with_reducible refine (impl_MatrixOfSteps.calls k3 (rd y436 t439) x5_2 t466 t467 t468 t469 t470 _ A39.out).mono ?_); rintro e w45 ⟨rfl, hb⟩; refine ⟨_, rfl, ?_⟩; replace HB := Aside0.mk (below_step (by repeat (first | (with_reducible first | exact HB.out | apply below_alloc | apply pw_below_drewN | apply below_drew1 | refine below_set ?_ (IsS119.ge HI435.out)) | exact HB.out)) hb); replace HI435 := Aside0.mk (IsS119.below (by repeat (first | (with_reducible first | exact HI435.out | apply IsS119.alloc | apply IsS119.drewN | apply IsS119.drew | apply IsS119.set_1 | apply IsS119.set_2) | exact HI435.out)) hb); (try clear hb)) | ((refine gd_ 10 ?_); refine bx_ 10 #[.int .i64 0, .int .i64 0, .int .i64 0, .int .i64 0] 46 ?_; intro gb471 hg w46 BK471 hb; have GW471 := Aside0.mk ((by rw [hg]; exact (below_size (by repeat (first | (with_reducible first | exact HB.out | apply below_alloc | apply pw_below_drewN | apply below_drew1 | refine below_set ?_ (IsS119.ge HI435.out)) | exact HB.out))) : w.heap.size ≤ gb471)); have GE471 := Aside0.mk ((by rw [hg]; exact (below_size (by repeat (first | (with_reducible first | exact HB.out | apply below_alloc | apply pw_below_drewN | apply below_drew1 | refine below_set ?_ (IsS119.ge HI435.out)) | exact HB.out))) : w.heap.size ≤ gb471)); have NB435_471 := Aside0.mk ((by rw [hg]; exact Nat.ne_of_lt (IsS119.lt (show IsS119 w _ g435 t432 x436001_3 x436002_3 from by repeat (first | (with_reducible first | exact HI435.out | apply IsS119.alloc | apply IsS119.drewN | apply IsS119.drew | apply IsS119.set_1 | apply IsS119.set_2) | exact HI435.out))) : g435 ≠ gb471)); have NB471_435 := Aside0.mk ((by rw [hg]; exact Nat.ne_of_gt (IsS119.lt (show IsS119 w _ g435 t432 x436001_3 x436002_3 from by repeat (first | (with_reducible first | exact HI435.out | apply IsS119.alloc | apply IsS119.drewN | apply IsS119.drew | apply IsS119.set_1 | apply IsS119.set_2) | exact HI435.out))) : gb471 ≠ g435)); replace HB := Aside0.mk (below_step (by repeat (first | (with_reducible first | exact HB.out | apply below_alloc | apply pw_below_drewN | apply below_drew1 | refine below_set ?_ (IsS119.ge HI435.out)) | exact HB.out)) hb); replace HI435 := Aside0.mk (IsS119.below (by repeat (first | (with_reducible first | exact HI435.out | apply IsS119.alloc | apply IsS119.drewN | apply IsS119.drew | apply IsS119.set_1 | apply IsS119.set_2) | exact HI435.out)) hb); clear hb hg; have hnb47 := NB471_435.out; have hnc47 := NB435_471.out; obtain ⟨hcz48_0, hcz48_1, hcz48_2, hcz48_3, hfz48_0, hfz48_1, hfz48_2, hfz48_3⟩ := ch4_ BK471) | ((refine gc_ 23 ?_); refine ge_ 86 Try.func23 #[.int .i64 (rd y436 t439), .string x5_2] ?_; (with_reducible refine (spec_MatrixOfSteps.calls k3 (rd y436 t439) x5_2 t472 t473 t474 t475 t476 _ A40.out).mono ?_); rintro e w49 ⟨rfl, hb⟩; refine ⟨_, rfl, ?_⟩; replace BK471 := Aside0.mk (blk_below (g := gb471) (o := .cells #[.int .i64 t466, .int .i64 t467, .int .i64 t468, .int .i64 t469] 46 (0, 0)) (bp_ BK471).out hb); replace HB := Aside0.mk (below_step (by repeat (first | (with_reducible first | exact HB.out | apply below_alloc | apply pw_below_drewN | apply below_drew1 | refine below_set ?_ (IsS119.ge HI435.out) | refine below_set ?_ GE471.out) | exact HB.out)) hb); replace HI435 := Aside0.mk (IsS119.below (show IsS119 w ((((w46.setCell ⟨gb471, 0, none⟩ (.int .i64 t466)).setCell ⟨gb471, 1, none⟩ (.int .i64 t467)).setCell ⟨gb471, 2, none⟩ (.int .i64 t468)).setCell ⟨gb471, 3, none⟩ (.int .i64 t469)) g435 t432 x436001_3 x436002_3 from by repeat (first | (with_reducible first | exact HI435.out | apply IsS119.alloc | apply IsS119.drewN | apply IsS119.drew | apply IsS119.set_1 | apply IsS119.set_2 | refine IsS119.far ?_ NB435_471.out _) | exact HI435.out)) hb); (try clear hb)) | ((refine gd_ 12 ?_); refine bx_ 12 #[.int .i64 0, .int .i64 0, .int .i64 0, .int .i64 0] 46 ?_; intro gb477 hg w50 BK477 hb; have GW477 := Aside0.mk ((by rw [hg]; exact (below_size (by repeat (first | (with_reducible first | exact HB.out | apply below_alloc | apply pw_below_drewN | apply below_drew1 | refine below_set ?_ (IsS119.ge HI435.out) | refine below_set ?_ GE471.out) | exact HB.out))) : w.heap.size ≤ gb477)); have GE477 := Aside0.mk ((by rw [hg]; exact (below_size (by repeat (first | (with_reducible first | exact HB.out | apply below_alloc | apply pw_below_drewN | apply below_drew1 | refine below_set ?_ (IsS119.ge HI435.out) | refine below_set ?_ GE471.out) | exact HB.out))) : w.heap.size ≤ gb477)); have NB471_477 := bm_ BK471 hg; have NB477_471 := bn_ BK471 hg; have NB435_477 := Aside0.mk ((by rw [hg]; exact Nat.ne_of_lt (IsS119.lt (show IsS119 w _ g435 t432 x436001_3 x436002_3 from by repeat (first | (with_reducible first | exact HI435.out | apply IsS119.alloc | apply IsS119.drewN | apply IsS119.drew | apply IsS119.set_1 | apply IsS119.set_2 | refine IsS119.far ?_ NB435_471.out _) | exact HI435.out))) : g435 ≠ gb477)); have NB477_435 := Aside0.mk ((by rw [hg]; exact Nat.ne_of_gt (IsS119.lt (show IsS119 w _ g435 t432 x436001_3 x436002_3 from by repeat (first | (with_reducible first | exact HI435.out | apply IsS119.alloc | apply IsS119.drewN | apply IsS119.drew | apply IsS119.set_1 | apply IsS119.set_2 | refine IsS119.far ?_ NB435_471.out _) | exact HI435.out))) : gb477 ≠ g435)); replace BK471 := bb_ BK471 hb; replace HB := Aside0.mk (below_step (by repeat (first | (with_reducible first | exact HB.out | apply below_alloc | apply pw_below_drewN | apply below_drew1 | refine below_set ?_ (IsS119.ge HI435.out) | refine below_set ?_ GE471.out) | exact HB.out)) hb); replace HI435 := Aside0.mk (IsS119.below (by repeat (first | (with_reducible first | exact HI435.out | apply IsS119.alloc | apply IsS119.drewN | apply IsS119.drew | apply IsS119.set_1 | apply IsS119.set_2 | refine IsS119.far ?_ NB435_471.out _) | exact HI435.out)) hb); clear hb hg; have hnb51 := NB477_471.out; have hnc51 := NB471_477.out; have hnb52 := NB477_435.out; have hnc52 := NB435_477.out; obtain ⟨hcz53_0, hcz53_1, hcz53_2, hcz53_3, hfz53_0, hfz53_1, hfz53_2, hfz53_3⟩ := ch4_ BK477) | ((refine gc_ 10 ?_); refine ge_ 93 Try.func10 #[.int .i64 (rd y436 t439), .agg #[.int .i64 0, .int .i64 0, .int .i64 0], .string x5_2] ?_; (with_reducible refine (impl_FollowSteps.calls k3 (rd y436 t439) 0 0 0 x5_2 t478 t479 t480 t481 _ A41.out).mono ?_); rintro e w54 ⟨rfl, hb⟩; refine ⟨_, rfl, ?_⟩; replace BK471 := fb_ BK471 NB471_477 hb; replace BK477 := Aside0.mk (blk_below (g := gb477) (o := .cells #[.int .i64 t472, .int .i64 t473, .int .i64 t474, .int .i64 t475] 46 (0, 0)) (bp_ BK477).out hb); replace HB := Aside0.mk (below_step (by repeat (first | (with_reducible first | exact HB.out | apply below_alloc | apply pw_below_drewN | apply below_drew1 | refine below_set ?_ (IsS119.ge HI435.out) | refine below_set ?_ GE471.out | refine below_set ?_ GE477.out) | exact HB.out)) hb); replace HI435 := Aside0.mk (IsS119.below (show IsS119 w ((((w50.setCell ⟨gb477, 0, none⟩ (.int .i64 t472)).setCell ⟨gb477, 1, none⟩ (.int .i64 t473)).setCell ⟨gb477, 2, none⟩ (.int .i64 t474)).setCell ⟨gb477, 3, none⟩ (.int .i64 t475)) g435 t432 x436001_3 x436002_3 from by repeat (first | (with_reducible first | exact HI435.out | apply IsS119.alloc | apply IsS119.drewN | apply IsS119.drew | apply IsS119.set_1 | apply IsS119.set_2 | refine IsS119.far ?_ NB435_471.out _ | refine IsS119.far ?_ NB435_477.out _) | exact HI435.out)) hb); (try clear hb)) | ((refine gd_ 14 ?_); refine bx_ 14 #[.int .i64 0, .int .i64 0, .int .i64 0] 25 ?_; intro gb482 hg w55 BK482 hb; have GW482 := Aside0.mk ((by rw [hg]; exact (below_size (by repeat (first | (with_reducible first | exact HB.out | apply below_alloc | apply pw_below_drewN | apply below_drew1 | refine below_set ?_ (IsS119.ge HI435.out) | refine below_set ?_ GE471.out | refine below_set ?_ GE477.out) | exact HB.out))) : w.heap.size ≤ gb482)); have GE482 := Aside0.mk ((by rw [hg]; exact (below_size (by repeat (first | (with_reducible first | exact HB.out | apply below_alloc | apply pw_below_drewN | apply below_drew1 | refine below_set ?_ (IsS119.ge HI435.out) | refine below_set ?_ GE471.out | refine below_set ?_ GE477.out) | exact HB.out))) : w.heap.size ≤ gb482)); have NB471_482 := bm_ BK471 hg; have NB482_471 := bn_ BK471 hg; have NB477_482 := bm_ BK477 hg; have NB482_477 := bn_ BK477 hg; have NB435_482 := Aside0.mk ((by rw [hg]; exact Nat.ne_of_lt (IsS119.lt (show IsS119 w _ g435 t432 x436001_3 x436002_3 from by repeat (first | (with_reducible first | exact HI435.out | apply IsS119.alloc | apply IsS119.drewN | apply IsS119.drew | apply IsS119.set_1 | apply IsS119.set_2 | refine IsS119.far ?_ NB435_471.out _ | refine IsS119.far ?_ NB435_477.out _) | exact HI435.out))) : g435 ≠ gb482)); have NB482_435 := Aside0.mk ((by rw [hg]; exact Nat.ne_of_gt (IsS119.lt (show IsS119 w _ g435 t432 x436001_3 x436002_3 from by repeat (first | (with_reducible first | exact HI435.out | apply IsS119.alloc | apply IsS119.drewN | apply IsS119.drew | apply IsS119.set_1 | apply IsS119.set_2 | refine IsS119.far ?_ NB435_471.out _ | refine IsS119.far ?_ NB435_477.out _) | exact HI435.out))) : gb482 ≠ g435)); replace BK471 := bb_ BK471 hb; replace BK477 := bb_ BK477 hb; replace HB := Aside0.mk (below_step (by repeat (first | (with_reducible first | exact HB.out | apply below_alloc | apply pw_below_drewN | apply below_drew1 | refine below_set ?_ (IsS119.ge HI435.out) | refine below_set ?_ GE471.out | refine below_set ?_ GE477.out) | exact HB.out)) hb); replace HI435 := Aside0.mk (IsS119.below (by repeat (first | (with_reducible first | exact HI435.out | apply IsS119.alloc | apply IsS119.drewN | apply IsS119.drew | apply IsS119.set_1 | apply IsS119.set_2 | refine IsS119.far ?_ NB435_471.out _ | refine IsS119.far ?_ NB435_477.out _) | exact HI435.out)) hb); clear hb hg; have hnb56 := NB482_471.out; have hnc56 := NB471_482.out; have hnb57 := NB482_477.out; have hnc57 := NB477_482.out; have hnb58 := NB482_435.out; have hnc58 := NB435_482.out; obtain ⟨hcz59_0, hcz59_1, hcz59_2, hfz59_0, hfz59_1, hfz59_2⟩ := ch3_ BK482) | ((refine gc_ 10 ?_); refine ge_ 100 Try.func10 #[.int .i64 (rd y436 t439), .agg #[.int .i64 0, .int .i64 0, .int .i64 0], .string x6_3] ?_; (with_reducible refine (impl_FollowSteps.calls k3 (rd y436 t439) 0 0 0 x6_3 t483 t484 t485 t486 _ A42.out).mono ?_); rintro e w60 ⟨rfl, hb⟩; refine ⟨_, rfl, ?_⟩; replace BK471 := fb_ BK471 NB471_482 hb; replace BK477 := fb_ BK477 NB477_482 hb; replace BK482 := Aside0.mk (blk_below (g := gb482) (o := .cells #[.int .i64 t478, .int .i64 t479, .int .i64 t480] 25 (0, 0)) (bp_ BK482).out hb); replace HB := Aside0.mk (below_step (by repeat (first | (with_reducible first | exact HB.out | apply below_alloc | apply pw_below_drewN | apply below_drew1 | refine below_set ?_ (IsS119.ge HI435.out) | refine below_set ?_ GE471.out | refine below_set ?_ GE477.out | refine below_set ?_ GE482.out) | exact HB.out)) hb); replace HI435 := Aside0.mk (IsS119.below (show IsS119 w (((w55.setCell ⟨gb482, 0, none⟩ (.int .i64 t478)).setCell ⟨gb482, 1, none⟩ (.int .i64 t479)).setCell ⟨gb482, 2, none⟩ (.int .i64 t480)) g435 t432 x436001_3 x436002_3 from by repeat (first | (with_reducible first | exact HI435.out | apply IsS119.alloc | apply IsS119.drewN | apply IsS119.drew | apply IsS119.set_1 | apply IsS119.set_2 | refine IsS119.far ?_ NB435_471.out _ | refine IsS119.far ?_ NB435_477.out _ | refine IsS119.far ?_ NB435_482.out _) | exact HI435.out)) hb); (try clear hb)) | ((refine gd_ 16 ?_); refine bx_ 16 #[.int .i64 0, .int .i64 0, .int .i64 0] 25 ?_; intro gb487 hg w61 BK487 hb; have GW487 := Aside0.mk ((by rw [hg]; exact (below_size (by repeat (first | (with_reducible first | exact HB.out | apply below_alloc | apply pw_below_drewN | apply below_drew1 | refine below_set ?_ (IsS119.ge HI435.out) | refine below_set ?_ GE471.out | refine below_set ?_ GE477.out | refine below_set ?_ GE482.out) | exact HB.out))) : w.heap.size ≤ gb487)); have GE487 := Aside0.mk ((by rw [hg]; exact (below_size (by repeat (first | (with_reducible first | exact HB.out | apply below_alloc | apply pw_below_drewN | apply below_drew1 | refine below_set ?_ (IsS119.ge HI435.out) | refine below_set ?_ GE471.out | refine below_set ?_ GE477.out | refine below_set ?_ GE482.out) | exact HB.out))) : w.heap.size ≤ gb487)); have NB471_487 := bm_ BK471 hg; have NB487_471 := bn_ BK471 hg; have NB477_487 := bm_ BK477 hg; have NB487_477 := bn_ BK477 hg; have NB482_487 := bm_ BK482 hg; have NB487_482 := bn_ BK482 hg; have NB435_487 := Aside0.mk ((by rw [hg]; exact Nat.ne_of_lt (IsS119.lt (show IsS119 w _ g435 t432 x436001_3 x436002_3 from by repeat (first | (with_reducible first | exact HI435.out | apply IsS119.alloc | apply IsS119.drewN | apply IsS119.drew | apply IsS119.set_1 | apply IsS119.set_2 | refine IsS119.far ?_ NB435_471.out _ | refine IsS119.far ?_ NB435_477.out _ | refine IsS119.far ?_ NB435_482.out _) | exact HI435.out))) : g435 ≠ gb487)); have NB487_435 := Aside0.mk ((by rw [hg]; exact Nat.ne_of_gt (IsS119.lt (show IsS119 w _ g435 t432 x436001_3 x436002_3 from by repeat (first | (with_reducible first | exact HI435.out | apply IsS119.alloc | apply IsS119.drewN | apply IsS119.drew | apply IsS119.set_1 | apply IsS119.set_2 | refine IsS119.far ?_ NB435_471.out _ | refine IsS119.far ?_ NB435_477.out _ | refine IsS119.far ?_ NB435_482.out _) | exact HI435.out))) : gb487 ≠ g435)); replace BK471 := bb_ BK471 hb; replace BK477 := bb_ BK477 hb; replace BK482 := bb_ BK482 hb; replace HB := Aside0.mk (below_step (by repeat (first | (with_reducible first | exact HB.out | apply below_alloc | apply pw_below_drewN | apply below_drew1 | refine below_set ?_ (IsS119.ge HI435.out) | refine below_set ?_ GE471.out | refine below_set ?_ GE477.out | refine below_set ?_ GE482.out) | exact HB.out)) hb); replace HI435 := Aside0.mk (IsS119.below (by repeat (first | (with_reducible first | exact HI435.out | apply IsS119.alloc | apply IsS119.drewN | apply IsS119.drew | apply IsS119.set_1 | apply IsS119.set_2 | refine IsS119.far ?_ NB435_471.out _ | refine IsS119.far ?_ NB435_477.out _ | refine IsS119.far ?_ NB435_482.out _) | exact HI435.out)) hb); clear hb hg; have hnb62 := NB487_471.out; have hnc62 := NB471_487.out; have hnb63 := NB487_477.out; have hnc63 := NB477_487.out; have hnb64 := NB487_482.out; have hnc64 := NB482_487.out; have hnb65 := NB487_435.out; have hnc65 := NB435_487.out; obtain ⟨hcz66_0, hcz66_1, hcz66_2, hfz66_0, hfz66_1, hfz66_2⟩ := ch3_ BK487) | ((refine gc_ 11 ?_); refine ge_ 107 Try.func11 #[.int .i64 (rd y436 t439), .agg #[.int .i64 0, .int .i64 0, .int .i64 0], .string x6_3] ?_; (with_reducible refine (spec_FollowSteps.calls k3 (rd y436 t439) 0 0 0 x6_3 t488 t489 t490 t491 _ A43.out).mono ?_); rintro e w67 ⟨rfl, hb⟩; refine ⟨_, rfl, ?_⟩; replace BK471 := fb_ BK471 NB471_487 hb; replace BK477 := fb_ BK477 NB477_487 hb; replace BK482 := fb_ BK482 NB482_487 hb; replace BK487 := Aside0.mk (blk_below (g := gb487) (o := .cells #[.int .i64 t483, .int .i64 t484, .int .i64 t485] 25 (0, 0)) (bp_ BK487).out hb); replace HB := Aside0.mk (below_step (by repeat (first | (with_reducible first | exact HB.out | apply below_alloc | apply pw_below_drewN | apply below_drew1 | refine below_set ?_ (IsS119.ge HI435.out) | refine below_set ?_ GE471.out | refine below_set ?_ GE477.out | refine below_set ?_ GE482.out | refine below_set ?_ GE487.out) | exact HB.out)) hb); replace HI435 := Aside0.mk (IsS119.below (show IsS119 w (((w61.setCell ⟨gb487, 0, none⟩ (.int .i64 t483)).setCell ⟨gb487, 1, none⟩ (.int .i64 t484)).setCell ⟨gb487, 2, none⟩ (.int .i64 t485)) g435 t432 x436001_3 x436002_3 from by repeat (first | (with_reducible first | exact HI435.out | apply IsS119.alloc | apply IsS119.drewN | apply IsS119.drew | apply IsS119.set_1 | apply IsS119.set_2 | refine IsS119.far ?_ NB435_471.out _ | refine IsS119.far ?_ NB435_477.out _ | refine IsS119.far ?_ NB435_482.out _ | refine IsS119.far ?_ NB435_487.out _) | exact HI435.out)) hb); (try clear hb)) | ((refine gd_ 18 ?_); refine bx_ 18 #[.int .i64 0, .int .i64 0, .int .i64 0] 25 ?_; intro gb492 hg w68 BK492 hb; have GW492 := Aside0.mk ((by rw [hg]; exact (below_size (by repeat (first | (with_reducible first | exact HB.out | apply below_alloc | apply pw_below_drewN | apply below_drew1 | refine below_set ?_ (IsS119.ge HI435.out) | refine below_set ?_ GE471.out | refine below_set ?_ GE477.out | refine below_set ?_ GE482.out | refine below_set ?_ GE487.out) | exact HB.out))) : w.heap.size ≤ gb492)); have GE492 := Aside0.mk ((by rw [hg]; exact (below_size (by repeat (first | (with_reducible first | exact HB.out | apply below_alloc | apply pw_below_drewN | apply below_drew1 | refine below_set ?_ (IsS119.ge HI435.out) | refine below_set ?_ GE471.out | refine below_set ?_ GE477.out | refine below_set ?_ GE482.out | refine below_set ?_ GE487.out) | exact HB.out))) : w.heap.size ≤ gb492)); have NB471_492 := bm_ BK471 hg; have NB492_471 := bn_ BK471 hg; have NB477_492 := bm_ BK477 hg; have NB492_477 := bn_ BK477 hg; have NB482_492 := bm_ BK482 hg; have NB492_482 := bn_ BK482 hg; have NB487_492 := bm_ BK487 hg; have NB492_487 := bn_ BK487 hg; have NB435_492 := Aside0.mk ((by rw [hg]; exact Nat.ne_of_lt (IsS119.lt (show IsS119 w _ g435 t432 x436001_3 x436002_3 from by repeat (first | (with_reducible first | exact HI435.out | apply IsS119.alloc | apply IsS119.drewN | apply IsS119.drew | apply IsS119.set_1 | apply IsS119.set_2 | refine IsS119.far ?_ NB435_471.out _ | refine IsS119.far ?_ NB435_477.out _ | refine IsS119.far ?_ NB435_482.out _ | refine IsS119.far ?_ NB435_487.out _) | exact HI435.out))) : g435 ≠ gb492)); have NB492_435 := Aside0.mk ((by rw [hg]; exact Nat.ne_of_gt (IsS119.lt (show IsS119 w _ g435 t432 x436001_3 x436002_3 from by repeat (first | (with_reducible first | exact HI435.out | apply IsS119.alloc | apply IsS119.drewN | apply IsS119.drew | apply IsS119.set_1 | apply IsS119.set_2 | refine IsS119.far ?_ NB435_471.out _ | refine IsS119.far ?_ NB435_477.out _ | refine IsS119.far ?_ NB435_482.out _ | refine IsS119.far ?_ NB435_487.out _) | exact HI435.out))) : gb492 ≠ g435)); replace BK471 := bb_ BK471 hb; replace BK477 := bb_ BK477 hb; replace BK482 := bb_ BK482 hb; replace BK487 := bb_ BK487 hb; replace HB := Aside0.mk (below_step (by repeat (first | (with_reducible first | exact HB.out | apply below_alloc | apply pw_below_drewN | apply below_drew1 | refine below_set ?_ (IsS119.ge HI435.out) | refine below_set ?_ GE471.out | refine below_set ?_ GE477.out | refine below_set ?_ GE482.out | refine below_set ?_ GE487.out) | exact HB.out)) hb); replace HI435 := Aside0.mk (IsS119.below (by repeat (first | (with_reducible first | exact HI435.out | apply IsS119.alloc | apply IsS119.drewN | apply IsS119.drew | apply IsS119.set_1 | apply IsS119.set_2 | refine IsS119.far ?_ NB435_471.out _ | refine IsS119.far ?_ NB435_477.out _ | refine IsS119.far ?_ NB435_482.out _ | refine IsS119.far ?_ NB435_487.out _) | exact HI435.out)) hb); clear hb hg; have hnb69 := NB492_471.out; have hnc69 := NB471_492.out; have hnb70 := NB492_477.out; have hnc70 := NB477_492.out; have hnb71 := NB492_482.out; have hnc71 := NB482_492.out; have hnb72 := NB492_487.out; have hnc72 := NB487_492.out; have hnb73 := NB492_435.out; have hnc73 := NB435_492.out; obtain ⟨hcz74_0, hcz74_1, hcz74_2, hfz74_0, hfz74_1, hfz74_2⟩ := ch3_ BK492))
             (try simp only [Act.put, lstS, lstZ, lstC])
             go_cut [139] (fun v139 wc => ∃ (kq : Nat) (x139_43 : Bool), v139 = .bool x139_43 ∧ Aside0 (laws_FnTop.j3 kq (rd y436 t439) x6_3 x139_43 t466 t467 t468 t469 t478 t479 t480 t483 t484 t485 = some r) ∧ Aside0 (kq ≤ k3) ∧ Aside0 (wc.heap[gb471]? = some (.cells #[.int .i64 t466, .int .i64 t467, .int .i64 t468, .int .i64 t469] 46 (0, 0))) ∧ Aside0 (wc.heap[gb477]? = some (.cells #[.int .i64 t472, .int .i64 t473, .int .i64 t474, .int .i64 t475] 46 (0, 0))) ∧ Aside0 (wc.heap[gb482]? = some (.cells #[.int .i64 t478, .int .i64 t479, .int .i64 t480] 25 (0, 0))) ∧ Aside0 (wc.heap[gb487]? = some (.cells #[.int .i64 t483, .int .i64 t484, .int .i64 t485] 25 (0, 0))) ∧ Aside0 (wc.heap[gb492]? = some (.cells #[.int .i64 t488, .int .i64 t489, .int .i64 t490] 25 (0, 0))) ∧ Aside0 (Below w.heap.size w wc))
             case first => as_aux_lemma =>
              have H := HC44.out
              clear HC44
              by_cases c75 : t470 = t476
              ·rw [if_pos c75] at H
               have c75b0 : (t470 == t476) = true := beq_iff_eq.mpr c75
               have c75b1 : (t470 != t476) = false := bne_eq_false_iff_eq.mpr c75
               clear c75
               (first | rw [c75b0] | (simp only [i64_w, i32_w]; rw [c75b0]) | skip)
               by_cases c76 : ((!(t466 == t472) || (!(t467 == t473))) || ((!(t468 == t474) || (!(t469 == t475))))) = true
               ·rw [if_pos c76] at H
                have c76b0 : ((!(t466 == t472) || (!(t467 == t473))) || ((!(t468 == t474) || (!(t469 == t475))))) = true := c76
                clear c76
                have H' := Aside0.mk H
                clear H
                have hnb77 := NB471_477.out
                have hnc77 := NB477_471.out
                have hnb78 := NB471_482.out
                have hnc78 := NB482_471.out
                have hnb79 := NB471_487.out
                have hnc79 := NB487_471.out
                have hnb80 := NB471_492.out
                have hnc80 := NB492_471.out
                have hnb81 := NB471_435.out
                have hnc81 := NB435_471.out
                obtain ⟨hcz82_0, hcz82_1, hcz82_2, hcz82_3, hfz82_0, hfz82_1, hfz82_2, hfz82_3⟩ := ch4_ BK471
                have hnb83 := NB477_482.out
                have hnc83 := NB482_477.out
                have hnb84 := NB477_487.out
                have hnc84 := NB487_477.out
                have hnb85 := NB477_492.out
                have hnc85 := NB492_477.out
                have hnb86 := NB477_435.out
                have hnc86 := NB435_477.out
                obtain ⟨hcz87_0, hcz87_1, hcz87_2, hcz87_3, hfz87_0, hfz87_1, hfz87_2, hfz87_3⟩ := ch4_ BK477
                go_wp2
                go_meet
                case rel => exact ⟨_, (true), en_, H', ⟨by have := HK1.out; have := HK2.out; have := HK3.out; first | omega | exact Nat.le_refl _⟩, fl_ BK471 NB471_492, fl_ BK477 NB477_492, fl_ BK482 NB482_492, fl_ BK487 NB487_492, bp_ BK492, ⟨by repeat (first | (with_reducible first | exact HB.out | apply below_alloc | apply pw_below_drewN | apply below_drew1 | refine below_set ?_ (IsS119.ge HI435.out) | refine below_set ?_ GE471.out | refine below_set ?_ GE477.out | refine below_set ?_ GE482.out | refine below_set ?_ GE487.out | refine below_set ?_ GE492.out) | exact HB.out)⟩⟩
               ·rw [if_neg c76] at H
                have c76b0 : ((!(t466 == t472) || (!(t467 == t473))) || ((!(t468 == t474) || (!(t469 == t475))))) = false := by simpa using c76
                clear c76
                by_cases c88 : t470 = 0
                ·rw [if_pos c88] at H
                 have c88b0 : (t470 == 0) = true := beq_iff_eq.mpr c88
                 have c88b1 : (t470 != 0) = false := bne_eq_false_iff_eq.mpr c88
                 clear c88
                 by_cases c89 : t481 = 0
                 ·rw [if_pos c89] at H
                  have c89b0 : (t481 == 0) = true := beq_iff_eq.mpr c89
                  have c89b1 : (t481 != 0) = false := bne_eq_false_iff_eq.mpr c89
                  clear c89
                  by_cases c90 : t486 = t491
                  ·rw [if_pos c90] at H
                   have c90b0 : (t486 == t491) = true := beq_iff_eq.mpr c90
                   have c90b1 : (t486 != t491) = false := bne_eq_false_iff_eq.mpr c90
                   clear c90
                   by_cases c91 : t486 = 0
                   ·rw [if_pos c91] at H
                    have c91b0 : (t486 == 0) = true := beq_iff_eq.mpr c91
                    have c91b1 : (t486 != 0) = false := bne_eq_false_iff_eq.mpr c91
                    clear c91
                    have H' := Aside0.mk H
                    clear H
                    have hnb92 := NB471_477.out
                    have hnc92 := NB477_471.out
                    have hnb93 := NB471_482.out
                    have hnc93 := NB482_471.out
                    have hnb94 := NB471_487.out
                    have hnc94 := NB487_471.out
                    have hnb95 := NB471_492.out
                    have hnc95 := NB492_471.out
                    have hnb96 := NB471_435.out
                    have hnc96 := NB435_471.out
                    obtain ⟨hcz97_0, hcz97_1, hcz97_2, hcz97_3, hfz97_0, hfz97_1, hfz97_2, hfz97_3⟩ := ch4_ BK471
                    have hnb98 := NB477_482.out
                    have hnc98 := NB482_477.out
                    have hnb99 := NB477_487.out
                    have hnc99 := NB487_477.out
                    have hnb100 := NB477_492.out
                    have hnc100 := NB492_477.out
                    have hnb101 := NB477_435.out
                    have hnc101 := NB435_477.out
                    obtain ⟨hcz102_0, hcz102_1, hcz102_2, hcz102_3, hfz102_0, hfz102_1, hfz102_2, hfz102_3⟩ := ch4_ BK477
                    have hnb103 := NB487_482.out
                    have hnc103 := NB482_487.out
                    have hnb104 := NB487_492.out
                    have hnc104 := NB492_487.out
                    have hnb105 := NB487_435.out
                    have hnc105 := NB435_487.out
                    obtain ⟨hcz106_0, hcz106_1, hcz106_2, hfz106_0, hfz106_1, hfz106_2⟩ := ch3_ BK487
                    have hnb107 := NB492_482.out
                    have hnc107 := NB482_492.out
                    have hnb108 := NB492_435.out
                    have hnc108 := NB435_492.out
                    obtain ⟨hcz109_0, hcz109_1, hcz109_2, hfz109_0, hfz109_1, hfz109_2⟩ := ch3_ BK492
                    go_wp2
                    go_meet
                    case rel => exact ⟨_, ((!(t483 == t488) || (!(t484 == t489) || (!(t485 == t490))))), en_, H', ⟨by have := HK1.out; have := HK2.out; have := HK3.out; first | omega | exact Nat.le_refl _⟩, fl_ BK471 NB471_492, fl_ BK477 NB477_492, fl_ BK482 NB482_492, fl_ BK487 NB487_492, bp_ BK492, ⟨by repeat (first | (with_reducible first | exact HB.out | apply below_alloc | apply pw_below_drewN | apply below_drew1 | refine below_set ?_ (IsS119.ge HI435.out) | refine below_set ?_ GE471.out | refine below_set ?_ GE477.out | refine below_set ?_ GE482.out | refine below_set ?_ GE487.out | refine below_set ?_ GE492.out) | exact HB.out)⟩⟩
                   ·rw [if_neg c91] at H
                    have c91b0 : (t486 == 0) = false := beq_eq_false_iff_ne.mpr c91
                    have c91b1 : (t486 != 0) = true := bne_iff_ne.mpr c91
                    have H' := Aside0.mk H
                    clear H
                    have hnb110 := NB471_477.out
                    have hnc110 := NB477_471.out
                    have hnb111 := NB471_482.out
                    have hnc111 := NB482_471.out
                    have hnb112 := NB471_487.out
                    have hnc112 := NB487_471.out
                    have hnb113 := NB471_492.out
                    have hnc113 := NB492_471.out
                    have hnb114 := NB471_435.out
                    have hnc114 := NB435_471.out
                    obtain ⟨hcz115_0, hcz115_1, hcz115_2, hcz115_3, hfz115_0, hfz115_1, hfz115_2, hfz115_3⟩ := ch4_ BK471
                    have hnb116 := NB477_482.out
                    have hnc116 := NB482_477.out
                    have hnb117 := NB477_487.out
                    have hnc117 := NB487_477.out
                    have hnb118 := NB477_492.out
                    have hnc118 := NB492_477.out
                    have hnb119 := NB477_435.out
                    have hnc119 := NB435_477.out
                    obtain ⟨hcz120_0, hcz120_1, hcz120_2, hcz120_3, hfz120_0, hfz120_1, hfz120_2, hfz120_3⟩ := ch4_ BK477
                    go_wp2
                    go_meet
                    case rel => exact ⟨_, (true), en_, H', ⟨by have := HK1.out; have := HK2.out; have := HK3.out; first | omega | exact Nat.le_refl _⟩, fl_ BK471 NB471_492, fl_ BK477 NB477_492, fl_ BK482 NB482_492, fl_ BK487 NB487_492, bp_ BK492, ⟨by repeat (first | (with_reducible first | exact HB.out | apply below_alloc | apply pw_below_drewN | apply below_drew1 | refine below_set ?_ (IsS119.ge HI435.out) | refine below_set ?_ GE471.out | refine below_set ?_ GE477.out | refine below_set ?_ GE482.out | refine below_set ?_ GE487.out | refine below_set ?_ GE492.out) | exact HB.out)⟩⟩
                  ·rw [if_neg c90] at H
                   have c90b0 : (t486 == t491) = false := beq_eq_false_iff_ne.mpr c90
                   have c90b1 : (t486 != t491) = true := bne_iff_ne.mpr c90
                   have H' := Aside0.mk H
                   clear H
                   have hnb121 := NB471_477.out
                   have hnc121 := NB477_471.out
                   have hnb122 := NB471_482.out
                   have hnc122 := NB482_471.out
                   have hnb123 := NB471_487.out
                   have hnc123 := NB487_471.out
                   have hnb124 := NB471_492.out
                   have hnc124 := NB492_471.out
                   have hnb125 := NB471_435.out
                   have hnc125 := NB435_471.out
                   obtain ⟨hcz126_0, hcz126_1, hcz126_2, hcz126_3, hfz126_0, hfz126_1, hfz126_2, hfz126_3⟩ := ch4_ BK471
                   have hnb127 := NB477_482.out
                   have hnc127 := NB482_477.out
                   have hnb128 := NB477_487.out
                   have hnc128 := NB487_477.out
                   have hnb129 := NB477_492.out
                   have hnc129 := NB492_477.out
                   have hnb130 := NB477_435.out
                   have hnc130 := NB435_477.out
                   obtain ⟨hcz131_0, hcz131_1, hcz131_2, hcz131_3, hfz131_0, hfz131_1, hfz131_2, hfz131_3⟩ := ch4_ BK477
                   go_wp2
                   go_meet
                   case rel => exact ⟨_, (true), en_, H', ⟨by have := HK1.out; have := HK2.out; have := HK3.out; first | omega | exact Nat.le_refl _⟩, fl_ BK471 NB471_492, fl_ BK477 NB477_492, fl_ BK482 NB482_492, fl_ BK487 NB487_492, bp_ BK492, ⟨by repeat (first | (with_reducible first | exact HB.out | apply below_alloc | apply pw_below_drewN | apply below_drew1 | refine below_set ?_ (IsS119.ge HI435.out) | refine below_set ?_ GE471.out | refine below_set ?_ GE477.out | refine below_set ?_ GE482.out | refine below_set ?_ GE487.out | refine below_set ?_ GE492.out) | exact HB.out)⟩⟩
                 ·rw [if_neg c89] at H
                  have c89b0 : (t481 == 0) = false := beq_eq_false_iff_ne.mpr c89
                  have c89b1 : (t481 != 0) = true := bne_iff_ne.mpr c89
                  have H' := Aside0.mk H
                  clear H
                  have hnb132 := NB471_477.out
                  have hnc132 := NB477_471.out
                  have hnb133 := NB471_482.out
                  have hnc133 := NB482_471.out
                  have hnb134 := NB471_487.out
                  have hnc134 := NB487_471.out
                  have hnb135 := NB471_492.out
                  have hnc135 := NB492_471.out
                  have hnb136 := NB471_435.out
                  have hnc136 := NB435_471.out
                  obtain ⟨hcz137_0, hcz137_1, hcz137_2, hcz137_3, hfz137_0, hfz137_1, hfz137_2, hfz137_3⟩ := ch4_ BK471
                  have hnb138 := NB477_482.out
                  have hnc138 := NB482_477.out
                  have hnb139 := NB477_487.out
                  have hnc139 := NB487_477.out
                  have hnb140 := NB477_492.out
                  have hnc140 := NB492_477.out
                  have hnb141 := NB477_435.out
                  have hnc141 := NB435_477.out
                  obtain ⟨hcz142_0, hcz142_1, hcz142_2, hcz142_3, hfz142_0, hfz142_1, hfz142_2, hfz142_3⟩ := ch4_ BK477
                  go_wp2
                  go_meet
                  case rel => exact ⟨_, (true), en_, H', ⟨by have := HK1.out; have := HK2.out; have := HK3.out; first | omega | exact Nat.le_refl _⟩, fl_ BK471 NB471_492, fl_ BK477 NB477_492, fl_ BK482 NB482_492, fl_ BK487 NB487_492, bp_ BK492, ⟨by repeat (first | (with_reducible first | exact HB.out | apply below_alloc | apply pw_below_drewN | apply below_drew1 | refine below_set ?_ (IsS119.ge HI435.out) | refine below_set ?_ GE471.out | refine below_set ?_ GE477.out | refine below_set ?_ GE482.out | refine below_set ?_ GE487.out | refine below_set ?_ GE492.out) | exact HB.out)⟩⟩
                ·rw [if_neg c88] at H
                 have c88b0 : (t470 == 0) = false := beq_eq_false_iff_ne.mpr c88
                 have c88b1 : (t470 != 0) = true := bne_iff_ne.mpr c88
                 have H' := Aside0.mk H
                 clear H
                 have hnb143 := NB471_477.out
                 have hnc143 := NB477_471.out
                 have hnb144 := NB471_482.out
                 have hnc144 := NB482_471.out
                 have hnb145 := NB471_487.out
                 have hnc145 := NB487_471.out
                 have hnb146 := NB471_492.out
                 have hnc146 := NB492_471.out
                 have hnb147 := NB471_435.out
                 have hnc147 := NB435_471.out
                 obtain ⟨hcz148_0, hcz148_1, hcz148_2, hcz148_3, hfz148_0, hfz148_1, hfz148_2, hfz148_3⟩ := ch4_ BK471
                 have hnb149 := NB477_482.out
                 have hnc149 := NB482_477.out
                 have hnb150 := NB477_487.out
                 have hnc150 := NB487_477.out
                 have hnb151 := NB477_492.out
                 have hnc151 := NB492_477.out
                 have hnb152 := NB477_435.out
                 have hnc152 := NB435_477.out
                 obtain ⟨hcz153_0, hcz153_1, hcz153_2, hcz153_3, hfz153_0, hfz153_1, hfz153_2, hfz153_3⟩ := ch4_ BK477
                 go_wp2
                 go_meet
                 case rel => exact ⟨_, (true), en_, H', ⟨by have := HK1.out; have := HK2.out; have := HK3.out; first | omega | exact Nat.le_refl _⟩, fl_ BK471 NB471_492, fl_ BK477 NB477_492, fl_ BK482 NB482_492, fl_ BK487 NB487_492, bp_ BK492, ⟨by repeat (first | (with_reducible first | exact HB.out | apply below_alloc | apply pw_below_drewN | apply below_drew1 | refine below_set ?_ (IsS119.ge HI435.out) | refine below_set ?_ GE471.out | refine below_set ?_ GE477.out | refine below_set ?_ GE482.out | refine below_set ?_ GE487.out | refine below_set ?_ GE492.out) | exact HB.out)⟩⟩
              ·rw [if_neg c75] at H
               have c75b0 : (t470 == t476) = false := beq_eq_false_iff_ne.mpr c75
               have c75b1 : (t470 != t476) = true := bne_iff_ne.mpr c75
               (first | rw [c75b0] | (simp only [i64_w, i32_w]; rw [c75b0]) | skip)
               have H' := Aside0.mk H
               clear H
               go_wp2
               go_meet
               case rel => exact ⟨_, (true), en_, H', ⟨by have := HK1.out; have := HK2.out; have := HK3.out; first | omega | exact Nat.le_refl _⟩, fl_ BK471 NB471_492, fl_ BK477 NB477_492, fl_ BK482 NB482_492, fl_ BK487 NB487_492, bp_ BK492, ⟨by repeat (first | (with_reducible first | exact HB.out | apply below_alloc | apply pw_below_drewN | apply below_drew1 | refine below_set ?_ (IsS119.ge HI435.out) | refine below_set ?_ GE471.out | refine below_set ?_ GE477.out | refine below_set ?_ GE482.out | refine below_set ?_ GE487.out | refine below_set ?_ GE492.out) | exact HB.out)⟩⟩
             case rest => as_aux_lemma =>
              clear HC44
              try clear c1
              try clear c2
              try clear p2
              try clear c3
              try clear c4
              try clear p4
              try clear q4
              try clear hx4
              try clear c5
              try clear c6
              try clear c6b0
              try clear p6
              try clear c7
              try clear c7b0
              try clear c8
              try clear c9
              try clear c10
              try clear c11
              try clear c12
              try clear c13
              try clear c14
              try clear c15
              try clear c15b0
              try clear c16
              try clear c16b0
              try clear c16b1
              try clear c16b2
              try clear c19
              try clear c19b0
              try clear c20
              try clear c21
              try clear c21b0
              try clear c22
              try clear c22b0
              try clear c23
              try clear c23b0
              try clear c23b1
              try clear c23b2
              try clear c30
              try clear c30b0
              try clear c32
              try clear c32b0
              try clear c33
              try clear c33b0
              try clear c34
              try clear c34b0
              try clear c34b1
              try clear c34b2
              try clear p44
              try clear q44
              try clear hx44
              try clear p45
              try clear q45
              try clear hx45
              try clear p46
              try clear q46
              try clear hx46
              try clear c47
              try clear c51
              try clear c52
              try clear c56
              try clear c57
              try clear c58
              try clear c62
              try clear c63
              try clear c64
              try clear p64
              try clear c65
              try clear c69
              try clear c70
              try clear c71
              try clear c72
              try clear c73
              try clear c75
              try clear c75b0
              try clear c75b1
              try clear c76
              try clear c76b0
              try clear c77
              try clear c78
              try clear c79
              try clear c80
              try clear c81
              try clear c83
              try clear c84
              try clear c85
              try clear c86
              try clear c88
              try clear c88b0
              try clear c88b1
              try clear c89
              try clear c89b0
              try clear c89b1
              try clear c90
              try clear c90b0
              try clear c90b1
              try clear c91
              try clear c91b0
              try clear c91b1
              try clear c92
              try clear c93
              try clear c94
              try clear c95
              try clear c96
              try clear c98
              try clear c99
              try clear c100
              try clear c101
              try clear c103
              try clear c104
              try clear c105
              try clear c107
              try clear c108
              try clear c110
              try clear c111
              try clear c112
              try clear c113
              try clear c114
              try clear c116
              try clear c117
              try clear c118
              try clear c119
              try clear c121
              try clear c122
              try clear c123
              try clear c124
              try clear c125
              try clear c127
              try clear c128
              try clear c129
              try clear c130
              try clear c132
              try clear c133
              try clear c134
              try clear c135
              try clear c136
              try clear c138
              try clear c139
              try clear c140
              try clear c141
              try clear c143
              try clear c144
              try clear c145
              try clear c146
              try clear c147
              try clear c149
              try clear c150
              try clear c151
              try clear c152
              try clear hcz102_0 hcz102_1 hcz102_2 hcz102_3
              try clear hcz106_0 hcz106_1 hcz106_2
              try clear hcz109_0 hcz109_1 hcz109_2
              try clear hcz115_0 hcz115_1 hcz115_2 hcz115_3
              try clear hcz120_0 hcz120_1 hcz120_2 hcz120_3
              try clear hcz126_0 hcz126_1 hcz126_2 hcz126_3
              try clear hcz131_0 hcz131_1 hcz131_2 hcz131_3
              try clear hcz137_0 hcz137_1 hcz137_2 hcz137_3
              try clear hcz142_0 hcz142_1 hcz142_2 hcz142_3
              try clear hcz148_0 hcz148_1 hcz148_2 hcz148_3
              try clear hcz153_0 hcz153_1 hcz153_2 hcz153_3
              try clear hcz48_0 hcz48_1 hcz48_2 hcz48_3
              try clear hcz53_0 hcz53_1 hcz53_2 hcz53_3
              try clear hcz59_0 hcz59_1 hcz59_2
              try clear hcz66_0 hcz66_1 hcz66_2
              try clear hcz74_0 hcz74_1 hcz74_2
              try clear hcz82_0 hcz82_1 hcz82_2 hcz82_3
              try clear hcz87_0 hcz87_1 hcz87_2 hcz87_3
              try clear hcz97_0 hcz97_1 hcz97_2 hcz97_3
              try clear hfz102_0 hfz102_1 hfz102_2 hfz102_3
              try clear hfz106_0 hfz106_1 hfz106_2
              try clear hfz109_0 hfz109_1 hfz109_2
              try clear hfz115_0 hfz115_1 hfz115_2 hfz115_3
              try clear hfz120_0 hfz120_1 hfz120_2 hfz120_3
              try clear hfz126_0 hfz126_1 hfz126_2 hfz126_3
              try clear hfz131_0 hfz131_1 hfz131_2 hfz131_3
              try clear hfz137_0 hfz137_1 hfz137_2 hfz137_3
              try clear hfz142_0 hfz142_1 hfz142_2 hfz142_3
              try clear hfz148_0 hfz148_1 hfz148_2 hfz148_3
              try clear hfz153_0 hfz153_1 hfz153_2 hfz153_3
              try clear hfz48_0 hfz48_1 hfz48_2 hfz48_3
              try clear hfz53_0 hfz53_1 hfz53_2 hfz53_3
              try clear hfz59_0 hfz59_1 hfz59_2
              try clear hfz66_0 hfz66_1 hfz66_2
              try clear hfz74_0 hfz74_1 hfz74_2
              try clear hfz82_0 hfz82_1 hfz82_2 hfz82_3
              try clear hfz87_0 hfz87_1 hfz87_2 hfz87_3
              try clear hfz97_0 hfz97_1 hfz97_2 hfz97_3
              try clear hx442_0
              try clear hx455_0
              try clear hx465_0
              try clear p2
              try clear p4
              try clear p442
              try clear p455
              try clear p465
              try clear p6
              try clear q4
              try clear q442
              try clear q455
              try clear q465
              obtain ⟨kq, x139_43, rfl, HA, HJ43, BK471, BK477, BK482, BK487, BK492, HB⟩ := hcut
              cases kq with
              | zero => exact absurd HA.out (by simp [laws_FnTop.j3])
              | succ kj43 =>
               have H := HA.out
               clear HA
               simp only [laws_FnTop.j3] at H
               by_cases c154 : x139_43 = true
               ·subst c154
                have H1 : (none) = some r := by rw [if_pos rfl] at H; exact H
                clear H
                have H := H1
                clear H1
                exact absurd H (by simp)
               ·replace c154 := Bool.eq_false_iff.mpr c154
                subst c154
                have H1 : ((impl_MoveBall.f kj43 (rd y436 t439) t466 t467 t468 t469 0 0 0).bind fun bt493 => ((impl_MoveBall.f kj43 (rd y436 t439) t466 t467 t468 t469 t483 t484 t485).bind fun bt498 => ((impl_FollowSteps.f kj43 (rd y436 t439) t478 t479 t480 x6_3).bind fun bt503 => (if bt493.2.2.2 = 0 then (if (!(bt493.1 == t478) || (!(bt493.2.1 == t479) || (!(bt493.2.2.1 == t480)))) = true then (laws_FnTop.j4 kj43 (rd y436 t439) true t466 t467 t468 t469 t478 t479 t480 t483 t484 t485 bt498.1 bt498.2.1 bt498.2.2.1) else (if bt498.2.2.2 = 0 then (if bt503.2.2.2 = 0 then (laws_FnTop.j4 kj43 (rd y436 t439) (!(bt498.1 == bt503.1) || (!(bt498.2.1 == bt503.2.1) || (!(bt498.2.2.1 == bt503.2.2.1)))) t466 t467 t468 t469 t478 t479 t480 t483 t484 t485 bt498.1 bt498.2.1 bt498.2.2.1) else (laws_FnTop.j4 kj43 (rd y436 t439) true t466 t467 t468 t469 t478 t479 t480 t483 t484 t485 bt498.1 bt498.2.1 bt498.2.2.1)) else (laws_FnTop.j4 kj43 (rd y436 t439) true t466 t467 t468 t469 t478 t479 t480 t483 t484 t485 bt498.1 bt498.2.1 bt498.2.2.1))) else (laws_FnTop.j4 kj43 (rd y436 t439) true t466 t467 t468 t469 t478 t479 t480 t483 t484 t485 bt498.1 bt498.2.1 bt498.2.2.1))))) = some r := by rw [if_neg (show ¬ (false = true) by decide)] at H; exact H
                clear H
                have H := H1
                clear H1
                replace H := ob_ H
                obtain ⟨⟨t493, t494, t495, t496⟩, A1550, H⟩ := H
                have A155 := Aside0.mk A1550
                clear A1550
                replace H := ob_ H
                obtain ⟨⟨t498, t499, t500, t501⟩, A1560, H⟩ := H
                have A156 := Aside0.mk A1560
                clear A1560
                replace H := ob_ H
                obtain ⟨⟨t503, t504, t505, t506⟩, A1570, H⟩ := H
                have A157 := Aside0.mk A1570
                clear A1570
                have HC158 := Aside0.mk H
                clear H
                have hnb159 := NB471_477.out
                have hnc159 := NB477_471.out
                have hnb160 := NB471_482.out
                have hnc160 := NB482_471.out
                have hnb161 := NB471_487.out
                have hnc161 := NB487_471.out
                have hnb162 := NB471_492.out
                have hnc162 := NB492_471.out
                obtain ⟨hcz163_0, hcz163_1, hcz163_2, hcz163_3, hfz163_0, hfz163_1, hfz163_2, hfz163_3⟩ := ch4_ BK471
                go_upto_region 28 with (first | ((refine gc_ 24 ?_); refine ge_ 144 Try.func24 #[.int .i64 (rd y436 t439), .agg #[.int .i64 t466, .int .i64 t467, .int .i64 t468, .int .i64 t469], .agg #[.int .i64 0, .int .i64 0, .int .i64 0]] ?_; (with_reducible refine (impl_MoveBall.calls kj43 (rd y436 t439) t466 t467 t468 t469 0 0 0 t493 t494 t495 t496 _ A155.out).mono ?_); rintro e w164 ⟨rfl, hb⟩; refine ⟨_, rfl, ?_⟩; replace BK471 := bb_ BK471 hb; replace BK477 := bb_ BK477 hb; replace BK482 := bb_ BK482 hb; replace BK487 := bb_ BK487 hb; replace BK492 := bb_ BK492 hb; replace HB := bt_ HB hb; (try clear hb)) | ((refine gd_ 20 ?_); refine bx_ 20 #[.int .i64 0, .int .i64 0, .int .i64 0] 25 ?_; intro gb497 hg w165 BK497 hb; have GW497 := bs_ HB hg; have GE497 := bs_ HB hg; have NB471_497 := bm_ BK471 hg; have NB497_471 := bn_ BK471 hg; have NB477_497 := bm_ BK477 hg; have NB497_477 := bn_ BK477 hg; have NB482_497 := bm_ BK482 hg; have NB497_482 := bn_ BK482 hg; have NB487_497 := bm_ BK487 hg; have NB497_487 := bn_ BK487 hg; have NB492_497 := bm_ BK492 hg; have NB497_492 := bn_ BK492 hg; replace BK471 := bb_ BK471 hb; replace BK477 := bb_ BK477 hb; replace BK482 := bb_ BK482 hb; replace BK487 := bb_ BK487 hb; replace BK492 := bb_ BK492 hb; replace HB := bt_ HB hb; clear hb hg; have hnb166 := NB497_471.out; have hnc166 := NB471_497.out; have hnb167 := NB497_477.out; have hnc167 := NB477_497.out; have hnb168 := NB497_482.out; have hnc168 := NB482_497.out; have hnb169 := NB497_487.out; have hnc169 := NB487_497.out; have hnb170 := NB497_492.out; have hnc170 := NB492_497.out; obtain ⟨hcz171_0, hcz171_1, hcz171_2, hfz171_0, hfz171_1, hfz171_2⟩ := ch3_ BK497; obtain ⟨hcz172_0, hcz172_1, hcz172_2, hcz172_3, hfz172_0, hfz172_1, hfz172_2, hfz172_3⟩ := ch4_ BK471; have hnb173 := NB487_477.out; have hnc173 := NB477_487.out; have hnb174 := NB487_482.out; have hnc174 := NB482_487.out; have hnb175 := NB487_492.out; have hnc175 := NB492_487.out; obtain ⟨hcz176_0, hcz176_1, hcz176_2, hfz176_0, hfz176_1, hfz176_2⟩ := ch3_ BK487) | ((refine gc_ 24 ?_); refine ge_ 151 Try.func24 #[.int .i64 (rd y436 t439), .agg #[.int .i64 t466, .int .i64 t467, .int .i64 t468, .int .i64 t469], .agg #[.int .i64 t483, .int .i64 t484, .int .i64 t485]] ?_; (with_reducible refine (impl_MoveBall.calls kj43 (rd y436 t439) t466 t467 t468 t469 t483 t484 t485 t498 t499 t500 t501 _ A156.out).mono ?_); rintro e w177 ⟨rfl, hb⟩; refine ⟨_, rfl, ?_⟩; replace BK471 := fb_ BK471 NB471_497 hb; replace BK477 := fb_ BK477 NB477_497 hb; replace BK482 := fb_ BK482 NB482_497 hb; replace BK487 := fb_ BK487 NB487_497 hb; replace BK492 := fb_ BK492 NB492_497 hb; replace BK497 := Aside0.mk (blk_below (g := gb497) (o := .cells #[.int .i64 t493, .int .i64 t494, .int .i64 t495] 25 (0, 0)) (bp_ BK497).out hb); replace HB := bt_ HB hb; (try clear hb)) | ((refine gd_ 22 ?_); refine bx_ 22 #[.int .i64 0, .int .i64 0, .int .i64 0] 25 ?_; intro gb502 hg w178 BK502 hb; have GW502 := bs_ HB hg; have GE502 := bs_ HB hg; have NB471_502 := bm_ BK471 hg; have NB502_471 := bn_ BK471 hg; have NB477_502 := bm_ BK477 hg; have NB502_477 := bn_ BK477 hg; have NB482_502 := bm_ BK482 hg; have NB502_482 := bn_ BK482 hg; have NB487_502 := bm_ BK487 hg; have NB502_487 := bn_ BK487 hg; have NB492_502 := bm_ BK492 hg; have NB502_492 := bn_ BK492 hg; have NB497_502 := bm_ BK497 hg; have NB502_497 := bn_ BK497 hg; replace BK471 := bb_ BK471 hb; replace BK477 := bb_ BK477 hb; replace BK482 := bb_ BK482 hb; replace BK487 := bb_ BK487 hb; replace BK492 := bb_ BK492 hb; replace BK497 := bb_ BK497 hb; replace HB := bt_ HB hb; clear hb hg; have hnb179 := NB502_471.out; have hnc179 := NB471_502.out; have hnb180 := NB502_477.out; have hnc180 := NB477_502.out; have hnb181 := NB502_482.out; have hnc181 := NB482_502.out; have hnb182 := NB502_487.out; have hnc182 := NB487_502.out; have hnb183 := NB502_492.out; have hnc183 := NB492_502.out; have hnb184 := NB502_497.out; have hnc184 := NB497_502.out; obtain ⟨hcz185_0, hcz185_1, hcz185_2, hfz185_0, hfz185_1, hfz185_2⟩ := ch3_ BK502; have hnb186 := NB482_477.out; have hnc186 := NB477_482.out; have hnb187 := NB482_492.out; have hnc187 := NB492_482.out; obtain ⟨hcz188_0, hcz188_1, hcz188_2, hfz188_0, hfz188_1, hfz188_2⟩ := ch3_ BK482) | ((refine gc_ 10 ?_); refine ge_ 158 Try.func10 #[.int .i64 (rd y436 t439), .agg #[.int .i64 t478, .int .i64 t479, .int .i64 t480], .string x6_3] ?_; (with_reducible refine (impl_FollowSteps.calls kj43 (rd y436 t439) t478 t479 t480 x6_3 t503 t504 t505 t506 _ A157.out).mono ?_); rintro e w189 ⟨rfl, hb⟩; refine ⟨_, rfl, ?_⟩; replace BK471 := fb_ BK471 NB471_502 hb; replace BK477 := fb_ BK477 NB477_502 hb; replace BK482 := fb_ BK482 NB482_502 hb; replace BK487 := fb_ BK487 NB487_502 hb; replace BK492 := fb_ BK492 NB492_502 hb; replace BK497 := fb_ BK497 NB497_502 hb; replace BK502 := Aside0.mk (blk_below (g := gb502) (o := .cells #[.int .i64 t498, .int .i64 t499, .int .i64 t500] 25 (0, 0)) (bp_ BK502).out hb); replace HB := bt_ HB hb; (try clear hb)) | ((refine gd_ 24 ?_); refine bx_ 24 #[.int .i64 0, .int .i64 0, .int .i64 0] 25 ?_; intro gb507 hg w190 BK507 hb; have GW507 := bs_ HB hg; have GE507 := bs_ HB hg; have NB471_507 := bm_ BK471 hg; have NB507_471 := bn_ BK471 hg; have NB477_507 := bm_ BK477 hg; have NB507_477 := bn_ BK477 hg; have NB482_507 := bm_ BK482 hg; have NB507_482 := bn_ BK482 hg; have NB487_507 := bm_ BK487 hg; have NB507_487 := bn_ BK487 hg; have NB492_507 := bm_ BK492 hg; have NB507_492 := bn_ BK492 hg; have NB497_507 := bm_ BK497 hg; have NB507_497 := bn_ BK497 hg; have NB502_507 := bm_ BK502 hg; have NB507_502 := bn_ BK502 hg; replace BK471 := bb_ BK471 hb; replace BK477 := bb_ BK477 hb; replace BK482 := bb_ BK482 hb; replace BK487 := bb_ BK487 hb; replace BK492 := bb_ BK492 hb; replace BK497 := bb_ BK497 hb; replace BK502 := bb_ BK502 hb; replace HB := bt_ HB hb; clear hb hg; have hnb191 := NB507_471.out; have hnc191 := NB471_507.out; have hnb192 := NB507_477.out; have hnc192 := NB477_507.out; have hnb193 := NB507_482.out; have hnc193 := NB482_507.out; have hnb194 := NB507_487.out; have hnc194 := NB487_507.out; have hnb195 := NB507_492.out; have hnc195 := NB492_507.out; have hnb196 := NB507_497.out; have hnc196 := NB497_507.out; have hnb197 := NB507_502.out; have hnc197 := NB502_507.out; obtain ⟨hcz198_0, hcz198_1, hcz198_2, hfz198_0, hfz198_1, hfz198_2⟩ := ch3_ BK507))
                (try simp only [Act.put, lstS, lstZ, lstC])
                go_cut [180] (fun v180 wc => ∃ (kq : Nat) (x180_157 : Bool), v180 = .bool x180_157 ∧ Aside0 (laws_FnTop.j4 kq (rd y436 t439) x180_157 t466 t467 t468 t469 t478 t479 t480 t483 t484 t485 t498 t499 t500 = some r) ∧ Aside0 (kq ≤ kj43) ∧ Aside0 (wc.heap[gb471]? = some (.cells #[.int .i64 t466, .int .i64 t467, .int .i64 t468, .int .i64 t469] 46 (0, 0))) ∧ Aside0 (wc.heap[gb477]? = some (.cells #[.int .i64 t472, .int .i64 t473, .int .i64 t474, .int .i64 t475] 46 (0, 0))) ∧ Aside0 (wc.heap[gb482]? = some (.cells #[.int .i64 t478, .int .i64 t479, .int .i64 t480] 25 (0, 0))) ∧ Aside0 (wc.heap[gb487]? = some (.cells #[.int .i64 t483, .int .i64 t484, .int .i64 t485] 25 (0, 0))) ∧ Aside0 (wc.heap[gb492]? = some (.cells #[.int .i64 t488, .int .i64 t489, .int .i64 t490] 25 (0, 0))) ∧ Aside0 (wc.heap[gb497]? = some (.cells #[.int .i64 t493, .int .i64 t494, .int .i64 t495] 25 (0, 0))) ∧ Aside0 (wc.heap[gb502]? = some (.cells #[.int .i64 t498, .int .i64 t499, .int .i64 t500] 25 (0, 0))) ∧ Aside0 (wc.heap[gb507]? = some (.cells #[.int .i64 t503, .int .i64 t504, .int .i64 t505] 25 (0, 0))) ∧ Aside0 (Below w.heap.size w wc))
                case first => as_aux_lemma =>
                 have H := HC158.out
                 clear HC158
                 by_cases c199 : t496 = 0
                 ·rw [if_pos c199] at H
                  have c199b0 : (t496 == 0) = true := beq_iff_eq.mpr c199
                  have c199b1 : (t496 != 0) = false := bne_eq_false_iff_eq.mpr c199
                  clear c199
                  (first | rw [c199b0] | (simp only [i64_w, i32_w]; rw [c199b0]) | skip)
                  by_cases c200 : (!(t493 == t478) || (!(t494 == t479) || (!(t495 == t480)))) = true
                  ·rw [if_pos c200] at H
                   have c200b0 : (!(t493 == t478) || (!(t494 == t479) || (!(t495 == t480)))) = true := c200
                   clear c200
                   have H' := Aside0.mk H
                   clear H
                   have hnb201 := NB497_471.out
                   have hnc201 := NB471_497.out
                   have hnb202 := NB497_477.out
                   have hnc202 := NB477_497.out
                   have hnb203 := NB497_482.out
                   have hnc203 := NB482_497.out
                   have hnb204 := NB497_487.out
                   have hnc204 := NB487_497.out
                   have hnb205 := NB497_492.out
                   have hnc205 := NB492_497.out
                   have hnb206 := NB497_502.out
                   have hnc206 := NB502_497.out
                   have hnb207 := NB497_507.out
                   have hnc207 := NB507_497.out
                   obtain ⟨hcz208_0, hcz208_1, hcz208_2, hfz208_0, hfz208_1, hfz208_2⟩ := ch3_ BK497
                   have hnb209 := NB482_471.out
                   have hnc209 := NB471_482.out
                   have hnb210 := NB482_477.out
                   have hnc210 := NB477_482.out
                   have hnb211 := NB482_487.out
                   have hnc211 := NB487_482.out
                   have hnb212 := NB482_492.out
                   have hnc212 := NB492_482.out
                   have hnb213 := NB482_502.out
                   have hnc213 := NB502_482.out
                   have hnb214 := NB482_507.out
                   have hnc214 := NB507_482.out
                   obtain ⟨hcz215_0, hcz215_1, hcz215_2, hfz215_0, hfz215_1, hfz215_2⟩ := ch3_ BK482
                   go_wp2
                   go_meet
                   case rel => exact ⟨_, (true), en_, H', ⟨by have := HK1.out; have := HK2.out; have := HK3.out; have := HJ43.out; first | omega | exact Nat.le_refl _⟩, fl_ BK471 NB471_507, fl_ BK477 NB477_507, fl_ BK482 NB482_507, fl_ BK487 NB487_507, fl_ BK492 NB492_507, fl_ BK497 NB497_507, fl_ BK502 NB502_507, bp_ BK507, bw_ HB⟩
                  ·rw [if_neg c200] at H
                   have c200b0 : (!(t493 == t478) || (!(t494 == t479) || (!(t495 == t480)))) = false := by simpa using c200
                   clear c200
                   by_cases c216 : t501 = 0
                   ·rw [if_pos c216] at H
                    have c216b0 : (t501 == 0) = true := beq_iff_eq.mpr c216
                    have c216b1 : (t501 != 0) = false := bne_eq_false_iff_eq.mpr c216
                    clear c216
                    by_cases c217 : t506 = 0
                    ·rw [if_pos c217] at H
                     have c217b0 : (t506 == 0) = true := beq_iff_eq.mpr c217
                     have c217b1 : (t506 != 0) = false := bne_eq_false_iff_eq.mpr c217
                     clear c217
                     have H' := Aside0.mk H
                     clear H
                     have hnb218 := NB497_471.out
                     have hnc218 := NB471_497.out
                     have hnb219 := NB497_477.out
                     have hnc219 := NB477_497.out
                     have hnb220 := NB497_482.out
                     have hnc220 := NB482_497.out
                     have hnb221 := NB497_487.out
                     have hnc221 := NB487_497.out
                     have hnb222 := NB497_492.out
                     have hnc222 := NB492_497.out
                     have hnb223 := NB497_502.out
                     have hnc223 := NB502_497.out
                     have hnb224 := NB497_507.out
                     have hnc224 := NB507_497.out
                     obtain ⟨hcz225_0, hcz225_1, hcz225_2, hfz225_0, hfz225_1, hfz225_2⟩ := ch3_ BK497
                     have hnb226 := NB482_471.out
                     have hnc226 := NB471_482.out
                     have hnb227 := NB482_477.out
                     have hnc227 := NB477_482.out
                     have hnb228 := NB482_487.out
                     have hnc228 := NB487_482.out
                     have hnb229 := NB482_492.out
                     have hnc229 := NB492_482.out
                     have hnb230 := NB482_502.out
                     have hnc230 := NB502_482.out
                     have hnb231 := NB482_507.out
                     have hnc231 := NB507_482.out
                     obtain ⟨hcz232_0, hcz232_1, hcz232_2, hfz232_0, hfz232_1, hfz232_2⟩ := ch3_ BK482
                     have hnb233 := NB502_471.out
                     have hnc233 := NB471_502.out
                     have hnb234 := NB502_477.out
                     have hnc234 := NB477_502.out
                     have hnb235 := NB502_487.out
                     have hnc235 := NB487_502.out
                     have hnb236 := NB502_492.out
                     have hnc236 := NB492_502.out
                     have hnb237 := NB502_507.out
                     have hnc237 := NB507_502.out
                     obtain ⟨hcz238_0, hcz238_1, hcz238_2, hfz238_0, hfz238_1, hfz238_2⟩ := ch3_ BK502
                     have hnb239 := NB507_471.out
                     have hnc239 := NB471_507.out
                     have hnb240 := NB507_477.out
                     have hnc240 := NB477_507.out
                     have hnb241 := NB507_487.out
                     have hnc241 := NB487_507.out
                     have hnb242 := NB507_492.out
                     have hnc242 := NB492_507.out
                     obtain ⟨hcz243_0, hcz243_1, hcz243_2, hfz243_0, hfz243_1, hfz243_2⟩ := ch3_ BK507
                     go_wp2
                     go_meet
                     case rel => exact ⟨_, ((!(t498 == t503) || (!(t499 == t504) || (!(t500 == t505))))), en_, H', ⟨by have := HK1.out; have := HK2.out; have := HK3.out; have := HJ43.out; first | omega | exact Nat.le_refl _⟩, fl_ BK471 NB471_507, fl_ BK477 NB477_507, fl_ BK482 NB482_507, fl_ BK487 NB487_507, fl_ BK492 NB492_507, fl_ BK497 NB497_507, fl_ BK502 NB502_507, bp_ BK507, bw_ HB⟩
                    ·rw [if_neg c217] at H
                     have c217b0 : (t506 == 0) = false := beq_eq_false_iff_ne.mpr c217
                     have c217b1 : (t506 != 0) = true := bne_iff_ne.mpr c217
                     have H' := Aside0.mk H
                     clear H
                     have hnb244 := NB497_471.out
                     have hnc244 := NB471_497.out
                     have hnb245 := NB497_477.out
                     have hnc245 := NB477_497.out
                     have hnb246 := NB497_482.out
                     have hnc246 := NB482_497.out
                     have hnb247 := NB497_487.out
                     have hnc247 := NB487_497.out
                     have hnb248 := NB497_492.out
                     have hnc248 := NB492_497.out
                     have hnb249 := NB497_502.out
                     have hnc249 := NB502_497.out
                     have hnb250 := NB497_507.out
                     have hnc250 := NB507_497.out
                     obtain ⟨hcz251_0, hcz251_1, hcz251_2, hfz251_0, hfz251_1, hfz251_2⟩ := ch3_ BK497
                     have hnb252 := NB482_471.out
                     have hnc252 := NB471_482.out
                     have hnb253 := NB482_477.out
                     have hnc253 := NB477_482.out
                     have hnb254 := NB482_487.out
                     have hnc254 := NB487_482.out
                     have hnb255 := NB482_492.out
                     have hnc255 := NB492_482.out
                     have hnb256 := NB482_502.out
                     have hnc256 := NB502_482.out
                     have hnb257 := NB482_507.out
                     have hnc257 := NB507_482.out
                     obtain ⟨hcz258_0, hcz258_1, hcz258_2, hfz258_0, hfz258_1, hfz258_2⟩ := ch3_ BK482
                     go_wp2
                     go_meet
                     case rel => exact ⟨_, (true), en_, H', ⟨by have := HK1.out; have := HK2.out; have := HK3.out; have := HJ43.out; first | omega | exact Nat.le_refl _⟩, fl_ BK471 NB471_507, fl_ BK477 NB477_507, fl_ BK482 NB482_507, fl_ BK487 NB487_507, fl_ BK492 NB492_507, fl_ BK497 NB497_507, fl_ BK502 NB502_507, bp_ BK507, bw_ HB⟩
                   ·rw [if_neg c216] at H
                    have c216b0 : (t501 == 0) = false := beq_eq_false_iff_ne.mpr c216
                    have c216b1 : (t501 != 0) = true := bne_iff_ne.mpr c216
                    have H' := Aside0.mk H
                    clear H
                    have hnb259 := NB497_471.out
                    have hnc259 := NB471_497.out
                    have hnb260 := NB497_477.out
                    have hnc260 := NB477_497.out
                    have hnb261 := NB497_482.out
                    have hnc261 := NB482_497.out
                    have hnb262 := NB497_487.out
                    have hnc262 := NB487_497.out
                    have hnb263 := NB497_492.out
                    have hnc263 := NB492_497.out
                    have hnb264 := NB497_502.out
                    have hnc264 := NB502_497.out
                    have hnb265 := NB497_507.out
                    have hnc265 := NB507_497.out
                    obtain ⟨hcz266_0, hcz266_1, hcz266_2, hfz266_0, hfz266_1, hfz266_2⟩ := ch3_ BK497
                    have hnb267 := NB482_471.out
                    have hnc267 := NB471_482.out
                    have hnb268 := NB482_477.out
                    have hnc268 := NB477_482.out
                    have hnb269 := NB482_487.out
                    have hnc269 := NB487_482.out
                    have hnb270 := NB482_492.out
                    have hnc270 := NB492_482.out
                    have hnb271 := NB482_502.out
                    have hnc271 := NB502_482.out
                    have hnb272 := NB482_507.out
                    have hnc272 := NB507_482.out
                    obtain ⟨hcz273_0, hcz273_1, hcz273_2, hfz273_0, hfz273_1, hfz273_2⟩ := ch3_ BK482
                    go_wp2
                    go_meet
                    case rel => exact ⟨_, (true), en_, H', ⟨by have := HK1.out; have := HK2.out; have := HK3.out; have := HJ43.out; first | omega | exact Nat.le_refl _⟩, fl_ BK471 NB471_507, fl_ BK477 NB477_507, fl_ BK482 NB482_507, fl_ BK487 NB487_507, fl_ BK492 NB492_507, fl_ BK497 NB497_507, fl_ BK502 NB502_507, bp_ BK507, bw_ HB⟩
                 ·rw [if_neg c199] at H
                  have c199b0 : (t496 == 0) = false := beq_eq_false_iff_ne.mpr c199
                  have c199b1 : (t496 != 0) = true := bne_iff_ne.mpr c199
                  (first | rw [c199b0] | (simp only [i64_w, i32_w]; rw [c199b0]) | skip)
                  have H' := Aside0.mk H
                  clear H
                  go_wp2
                  go_meet
                  case rel => exact ⟨_, (true), en_, H', ⟨by have := HK1.out; have := HK2.out; have := HK3.out; have := HJ43.out; first | omega | exact Nat.le_refl _⟩, fl_ BK471 NB471_507, fl_ BK477 NB477_507, fl_ BK482 NB482_507, fl_ BK487 NB487_507, fl_ BK492 NB492_507, fl_ BK497 NB497_507, fl_ BK502 NB502_507, bp_ BK507, bw_ HB⟩
                case rest => as_aux_lemma =>
                 clear HC158
                 try clear c1
                 try clear c2
                 try clear p2
                 try clear c3
                 try clear c4
                 try clear p4
                 try clear q4
                 try clear hx4
                 try clear c5
                 try clear c6
                 try clear c6b0
                 try clear p6
                 try clear c7
                 try clear c7b0
                 try clear c8
                 try clear c9
                 try clear c10
                 try clear c11
                 try clear c12
                 try clear c13
                 try clear c14
                 try clear c15
                 try clear c15b0
                 try clear c16
                 try clear c16b0
                 try clear c16b1
                 try clear c16b2
                 try clear c17
                 try clear c18
                 try clear c19
                 try clear c19b0
                 try clear c20
                 try clear c21
                 try clear c21b0
                 try clear c22
                 try clear c22b0
                 try clear c23
                 try clear c23b0
                 try clear c23b1
                 try clear c23b2
                 try clear c24
                 try clear c25
                 try clear c26
                 try clear c27
                 try clear c30
                 try clear c30b0
                 try clear c32
                 try clear c32b0
                 try clear c33
                 try clear c33b0
                 try clear c34
                 try clear c34b0
                 try clear c34b1
                 try clear c34b2
                 try clear p44
                 try clear q44
                 try clear hx44
                 try clear p45
                 try clear q45
                 try clear hx45
                 try clear p46
                 try clear q46
                 try clear hx46
                 try clear c47
                 try clear c51
                 try clear c52
                 try clear c56
                 try clear c57
                 try clear c58
                 try clear c62
                 try clear c63
                 try clear c64
                 try clear p64
                 try clear c65
                 try clear c69
                 try clear c70
                 try clear c71
                 try clear c72
                 try clear c73
                 try clear c75
                 try clear c75b0
                 try clear c75b1
                 try clear c76
                 try clear c76b0
                 try clear c77
                 try clear c78
                 try clear c79
                 try clear c80
                 try clear c81
                 try clear c83
                 try clear c84
                 try clear c85
                 try clear c86
                 try clear c88
                 try clear c88b0
                 try clear c88b1
                 try clear c89
                 try clear c89b0
                 try clear c89b1
                 try clear c90
                 try clear c90b0
                 try clear c90b1
                 try clear c91
                 try clear c91b0
                 try clear c91b1
                 try clear c92
                 try clear c93
                 try clear c94
                 try clear c95
                 try clear c96
                 try clear c98
                 try clear c99
                 try clear c100
                 try clear c101
                 try clear c103
                 try clear c104
                 try clear c105
                 try clear c107
                 try clear c108
                 try clear c110
                 try clear c111
                 try clear c112
                 try clear c113
                 try clear c114
                 try clear c116
                 try clear c117
                 try clear c118
                 try clear c119
                 try clear c121
                 try clear c122
                 try clear c123
                 try clear c124
                 try clear c125
                 try clear c127
                 try clear c128
                 try clear c129
                 try clear c130
                 try clear c132
                 try clear c133
                 try clear c134
                 try clear c135
                 try clear c136
                 try clear c138
                 try clear c139
                 try clear c140
                 try clear c141
                 try clear c143
                 try clear c144
                 try clear c145
                 try clear c146
                 try clear c147
                 try clear c149
                 try clear c150
                 try clear c151
                 try clear c152
                 try clear c154
                 try clear c159
                 try clear c160
                 try clear c161
                 try clear c162
                 try clear c166
                 try clear c167
                 try clear c168
                 try clear c169
                 try clear c170
                 try clear c173
                 try clear c174
                 try clear c175
                 try clear c179
                 try clear c180
                 try clear c181
                 try clear c182
                 try clear c183
                 try clear c184
                 try clear c186
                 try clear c187
                 try clear c191
                 try clear c192
                 try clear c193
                 try clear c194
                 try clear c195
                 try clear c196
                 try clear c197
                 try clear c199
                 try clear c199b0
                 try clear c199b1
                 try clear c200
                 try clear c200b0
                 try clear c201
                 try clear c202
                 try clear c203
                 try clear c204
                 try clear c205
                 try clear c206
                 try clear c207
                 try clear c209
                 try clear c210
                 try clear c211
                 try clear c212
                 try clear c213
                 try clear c214
                 try clear c216
                 try clear c216b0
                 try clear c216b1
                 try clear c217
                 try clear c217b0
                 try clear c217b1
                 try clear c218
                 try clear c219
                 try clear c220
                 try clear c221
                 try clear c222
                 try clear c223
                 try clear c224
                 try clear c226
                 try clear c227
                 try clear c228
                 try clear c229
                 try clear c230
                 try clear c231
                 try clear c233
                 try clear c234
                 try clear c235
                 try clear c236
                 try clear c237
                 try clear c239
                 try clear c240
                 try clear c241
                 try clear c242
                 try clear c244
                 try clear c245
                 try clear c246
                 try clear c247
                 try clear c248
                 try clear c249
                 try clear c250
                 try clear c252
                 try clear c253
                 try clear c254
                 try clear c255
                 try clear c256
                 try clear c257
                 try clear c259
                 try clear c260
                 try clear c261
                 try clear c262
                 try clear c263
                 try clear c264
                 try clear c265
                 try clear c267
                 try clear c268
                 try clear c269
                 try clear c270
                 try clear c271
                 try clear c272
                 try clear hcz102_0 hcz102_1 hcz102_2 hcz102_3
                 try clear hcz106_0 hcz106_1 hcz106_2
                 try clear hcz109_0 hcz109_1 hcz109_2
                 try clear hcz115_0 hcz115_1 hcz115_2 hcz115_3
                 try clear hcz120_0 hcz120_1 hcz120_2 hcz120_3
                 try clear hcz126_0 hcz126_1 hcz126_2 hcz126_3
                 try clear hcz131_0 hcz131_1 hcz131_2 hcz131_3
                 try clear hcz137_0 hcz137_1 hcz137_2 hcz137_3
                 try clear hcz142_0 hcz142_1 hcz142_2 hcz142_3
                 try clear hcz148_0 hcz148_1 hcz148_2 hcz148_3
                 try clear hcz153_0 hcz153_1 hcz153_2 hcz153_3
                 try clear hcz163_0 hcz163_1 hcz163_2 hcz163_3
                 try clear hcz171_0 hcz171_1 hcz171_2
                 try clear hcz172_0 hcz172_1 hcz172_2 hcz172_3
                 try clear hcz176_0 hcz176_1 hcz176_2
                 try clear hcz185_0 hcz185_1 hcz185_2
                 try clear hcz188_0 hcz188_1 hcz188_2
                 try clear hcz198_0 hcz198_1 hcz198_2
                 try clear hcz208_0 hcz208_1 hcz208_2
                 try clear hcz215_0 hcz215_1 hcz215_2
                 try clear hcz225_0 hcz225_1 hcz225_2
                 try clear hcz232_0 hcz232_1 hcz232_2
                 try clear hcz238_0 hcz238_1 hcz238_2
                 try clear hcz243_0 hcz243_1 hcz243_2
                 try clear hcz251_0 hcz251_1 hcz251_2
                 try clear hcz258_0 hcz258_1 hcz258_2
                 try clear hcz266_0 hcz266_1 hcz266_2
                 try clear hcz273_0 hcz273_1 hcz273_2
                 try clear hcz48_0 hcz48_1 hcz48_2 hcz48_3
                 try clear hcz53_0 hcz53_1 hcz53_2 hcz53_3
                 try clear hcz59_0 hcz59_1 hcz59_2
                 try clear hcz66_0 hcz66_1 hcz66_2
                 try clear hcz74_0 hcz74_1 hcz74_2
                 try clear hcz82_0 hcz82_1 hcz82_2 hcz82_3
                 try clear hcz87_0 hcz87_1 hcz87_2 hcz87_3
                 try clear hcz97_0 hcz97_1 hcz97_2 hcz97_3
                 try clear hfz102_0 hfz102_1 hfz102_2 hfz102_3
                 try clear hfz106_0 hfz106_1 hfz106_2
                 try clear hfz109_0 hfz109_1 hfz109_2
                 try clear hfz115_0 hfz115_1 hfz115_2 hfz115_3
                 try clear hfz120_0 hfz120_1 hfz120_2 hfz120_3
                 try clear hfz126_0 hfz126_1 hfz126_2 hfz126_3
                 try clear hfz131_0 hfz131_1 hfz131_2 hfz131_3
                 try clear hfz137_0 hfz137_1 hfz137_2 hfz137_3
                 try clear hfz142_0 hfz142_1 hfz142_2 hfz142_3
                 try clear hfz148_0 hfz148_1 hfz148_2 hfz148_3
                 try clear hfz153_0 hfz153_1 hfz153_2 hfz153_3
                 try clear hfz163_0 hfz163_1 hfz163_2 hfz163_3
                 try clear hfz171_0 hfz171_1 hfz171_2
                 try clear hfz172_0 hfz172_1 hfz172_2 hfz172_3
                 try clear hfz176_0 hfz176_1 hfz176_2
                 try clear hfz185_0 hfz185_1 hfz185_2
                 try clear hfz188_0 hfz188_1 hfz188_2
                 try clear hfz198_0 hfz198_1 hfz198_2
                 try clear hfz208_0 hfz208_1 hfz208_2
                 try clear hfz215_0 hfz215_1 hfz215_2
                 try clear hfz225_0 hfz225_1 hfz225_2
                 try clear hfz232_0 hfz232_1 hfz232_2
                 try clear hfz238_0 hfz238_1 hfz238_2
                 try clear hfz243_0 hfz243_1 hfz243_2
                 try clear hfz251_0 hfz251_1 hfz251_2
                 try clear hfz258_0 hfz258_1 hfz258_2
                 try clear hfz266_0 hfz266_1 hfz266_2
                 try clear hfz273_0 hfz273_1 hfz273_2
                 try clear hfz48_0 hfz48_1 hfz48_2 hfz48_3
                 try clear hfz53_0 hfz53_1 hfz53_2 hfz53_3
                 try clear hfz59_0 hfz59_1 hfz59_2
                 try clear hfz66_0 hfz66_1 hfz66_2
                 try clear hfz74_0 hfz74_1 hfz74_2
                 try clear hfz82_0 hfz82_1 hfz82_2 hfz82_3
                 try clear hfz87_0 hfz87_1 hfz87_2 hfz87_3
                 try clear hfz97_0 hfz97_1 hfz97_2 hfz97_3
                 try clear hx442_0
                 try clear hx455_0
                 try clear hx465_0
                 try clear p2
                 try clear p4
                 try clear p44
                 try clear p442
                 try clear p45
                 try clear p455
                 try clear p46
                 try clear p465
                 try clear p6
                 try clear p64
                 try clear q4
                 try clear q44
                 try clear q442
                 try clear q45
                 try clear q455
                 try clear q46
                 try clear q465
                 obtain ⟨kq, x180_157, rfl, HA, HJ157, BK471, BK477, BK482, BK487, BK492, BK497, BK502, BK507, HB⟩ := hcut
                 cases kq with
                 | zero => exact absurd HA.out (by simp [laws_FnTop.j4])
                 | succ kj157 =>
                  have H := HA.out
                  clear HA
                  simp only [laws_FnTop.j4] at H
                  by_cases c274 : x180_157 = true
                  ·subst c274
                   have H1 : (none) = some r := by rw [if_pos rfl] at H; exact H
                   clear H
                   have H := H1
                   clear H1
                   exact absurd H (by simp)
                  ·replace c274 := Bool.eq_false_iff.mpr c274
                   subst c274
                   have H1 : ((impl_TreeDistance.f kj157 (rd y436 t439) 0 0 0 t483 t484 t485).bind fun bt508 => ((impl_TreeDistance.f kj157 (rd y436 t439) t478 t479 t480 t498 t499 t500).bind fun bt510 => ((impl_InverseMatrix.f kj157 t466 t467 t468 t469).bind fun bt512 => ((impl_MoveBall.f kj157 (rd y436 t439) bt512.1 bt512.2.1 bt512.2.2.1 bt512.2.2.2.1 t498 t499 t500).bind fun bt518 => (if bt508.2 = 0 then (if bt510.2 = 0 then (if bt508.1 = bt510.1 then (if bt512.2.2.2.2 = 0 then (if bt518.2.2.2 = 0 then (some (bt518.1 == t483 && (bt518.2.1 == t484 && (bt518.2.2.1 == t485)))) else (none)) else (none)) else (none)) else (none)) else (none)))))) = some r := by rw [if_neg (show ¬ (false = true) by decide)] at H; exact H
                   clear H
                   have H := H1
                   clear H1
                   replace H := ob_ H
                   obtain ⟨⟨t508, t509⟩, A2750, H⟩ := H
                   have A275 := Aside0.mk A2750
                   clear A2750
                   replace H := ob_ H
                   obtain ⟨⟨t510, t511⟩, A2760, H⟩ := H
                   have A276 := Aside0.mk A2760
                   clear A2760
                   replace H := ob_ H
                   obtain ⟨⟨t512, t513, t514, t515, t516⟩, A2770, H⟩ := H
                   have A277 := Aside0.mk A2770
                   clear A2770
                   replace H := ob_ H
                   obtain ⟨⟨t518, t519, t520, t521⟩, A2780, H⟩ := H
                   have A278 := Aside0.mk A2780
                   clear A2780
                   by_cases c279 : t509 = 0
                   ·rw [if_pos c279] at H
                    have c279b0 : (t509 == 0) = true := beq_iff_eq.mpr c279
                    have c279b1 : (t509 != 0) = false := bne_eq_false_iff_eq.mpr c279
                    clear c279
                    by_cases c280 : t511 = 0
                    ·rw [if_pos c280] at H
                     have c280b0 : (t511 == 0) = true := beq_iff_eq.mpr c280
                     have c280b1 : (t511 != 0) = false := bne_eq_false_iff_eq.mpr c280
                     clear c280
                     by_cases c281 : t508 = t510
                     ·rw [if_pos c281] at H
                      have c281b0 : (t508 == t510) = true := beq_iff_eq.mpr c281
                      have c281b1 : (t508 != t510) = false := bne_eq_false_iff_eq.mpr c281
                      clear c281
                      by_cases c282 : t516 = 0
                      ·rw [if_pos c282] at H
                       have c282b0 : (t516 == 0) = true := beq_iff_eq.mpr c282
                       have c282b1 : (t516 != 0) = false := bne_eq_false_iff_eq.mpr c282
                       clear c282
                       by_cases c283 : t521 = 0
                       ·rw [if_pos c283] at H
                        have c283b0 : (t521 == 0) = true := beq_iff_eq.mpr c283
                        have c283b1 : (t521 != 0) = false := bne_eq_false_iff_eq.mpr c283
                        clear c283
                        obtain rfl := si_ H
                        have hnb284 := NB487_471.out
                        have hnc284 := NB471_487.out
                        have hnb285 := NB487_477.out
                        have hnc285 := NB477_487.out
                        have hnb286 := NB487_482.out
                        have hnc286 := NB482_487.out
                        have hnb287 := NB487_492.out
                        have hnc287 := NB492_487.out
                        have hnb288 := NB487_497.out
                        have hnc288 := NB497_487.out
                        have hnb289 := NB487_502.out
                        have hnc289 := NB502_487.out
                        have hnb290 := NB487_507.out
                        have hnc290 := NB507_487.out
                        obtain ⟨hcz291_0, hcz291_1, hcz291_2, hfz291_0, hfz291_1, hfz291_2⟩ := ch3_ BK487
                        go_wp2_with (first | ((refine gc_ 19 ?_); refine ge_ 185 Try.func19 #[.int .i64 (rd y436 t439), .agg #[.int .i64 0, .int .i64 0, .int .i64 0], .agg #[.int .i64 t483, .int .i64 t484, .int .i64 t485]] ?_; (with_reducible refine (impl_TreeDistance.calls kj157 (rd y436 t439) 0 0 0 t483 t484 t485 t508 t509 _ A275.out).mono ?_); rintro e w292 ⟨rfl, hb⟩; refine ⟨_, rfl, ?_⟩; replace BK471 := bb_ BK471 hb; replace BK477 := bb_ BK477 hb; replace BK482 := bb_ BK482 hb; replace BK487 := bb_ BK487 hb; replace BK492 := bb_ BK492 hb; replace BK497 := bb_ BK497 hb; replace BK502 := bb_ BK502 hb; replace BK507 := bb_ BK507 hb; replace HB := bt_ HB hb; (try clear hb); have hnb293 := NB482_471.out; have hnc293 := NB471_482.out; have hnb294 := NB482_477.out; have hnc294 := NB477_482.out; have hnb295 := NB482_492.out; have hnc295 := NB492_482.out; have hnb296 := NB482_497.out; have hnc296 := NB497_482.out; have hnb297 := NB482_502.out; have hnc297 := NB502_482.out; have hnb298 := NB482_507.out; have hnc298 := NB507_482.out; obtain ⟨hcz299_0, hcz299_1, hcz299_2, hfz299_0, hfz299_1, hfz299_2⟩ := ch3_ BK482; have hnb300 := NB502_471.out; have hnc300 := NB471_502.out; have hnb301 := NB502_477.out; have hnc301 := NB477_502.out; have hnb302 := NB502_492.out; have hnc302 := NB492_502.out; have hnb303 := NB502_497.out; have hnc303 := NB497_502.out; have hnb304 := NB502_507.out; have hnc304 := NB507_502.out; obtain ⟨hcz305_0, hcz305_1, hcz305_2, hfz305_0, hfz305_1, hfz305_2⟩ := ch3_ BK502) | ((refine gc_ 19 ?_); refine ge_ 192 Try.func19 #[.int .i64 (rd y436 t439), .agg #[.int .i64 t478, .int .i64 t479, .int .i64 t480], .agg #[.int .i64 t498, .int .i64 t499, .int .i64 t500]] ?_; (with_reducible refine (impl_TreeDistance.calls kj157 (rd y436 t439) t478 t479 t480 t498 t499 t500 t510 t511 _ A276.out).mono ?_); rintro e w306 ⟨rfl, hb⟩; refine ⟨_, rfl, ?_⟩; replace BK471 := bb_ BK471 hb; replace BK477 := bb_ BK477 hb; replace BK482 := bb_ BK482 hb; replace BK487 := bb_ BK487 hb; replace BK492 := bb_ BK492 hb; replace BK497 := bb_ BK497 hb; replace BK502 := bb_ BK502 hb; replace BK507 := bb_ BK507 hb; replace HB := bt_ HB hb; (try clear hb); have hnb307 := NB471_477.out; have hnc307 := NB477_471.out; have hnb308 := NB471_492.out; have hnc308 := NB492_471.out; have hnb309 := NB471_497.out; have hnc309 := NB497_471.out; have hnb310 := NB471_507.out; have hnc310 := NB507_471.out; obtain ⟨hcz311_0, hcz311_1, hcz311_2, hcz311_3, hfz311_0, hfz311_1, hfz311_2, hfz311_3⟩ := ch4_ BK471) | ((refine gc_ 25 ?_); refine ge_ 197 Try.func25 #[.agg #[.int .i64 t466, .int .i64 t467, .int .i64 t468, .int .i64 t469]] ?_; (with_reducible refine (impl_InverseMatrix.calls kj157 t466 t467 t468 t469 t512 t513 t514 t515 t516 _ A277.out).mono ?_); rintro e w312 ⟨rfl, hb⟩; refine ⟨_, rfl, ?_⟩; replace BK471 := bb_ BK471 hb; replace BK477 := bb_ BK477 hb; replace BK482 := bb_ BK482 hb; replace BK487 := bb_ BK487 hb; replace BK492 := bb_ BK492 hb; replace BK497 := bb_ BK497 hb; replace BK502 := bb_ BK502 hb; replace BK507 := bb_ BK507 hb; replace HB := bt_ HB hb; (try clear hb)) | ((refine gd_ 30 ?_); refine bx_ 30 #[.int .i64 0, .int .i64 0, .int .i64 0, .int .i64 0] 46 ?_; intro gb517 hg w313 BK517 hb; have GW517 := bs_ HB hg; have GE517 := bs_ HB hg; have NB471_517 := bm_ BK471 hg; have NB517_471 := bn_ BK471 hg; have NB477_517 := bm_ BK477 hg; have NB517_477 := bn_ BK477 hg; have NB482_517 := bm_ BK482 hg; have NB517_482 := bn_ BK482 hg; have NB487_517 := bm_ BK487 hg; have NB517_487 := bn_ BK487 hg; have NB492_517 := bm_ BK492 hg; have NB517_492 := bn_ BK492 hg; have NB497_517 := bm_ BK497 hg; have NB517_497 := bn_ BK497 hg; have NB502_517 := bm_ BK502 hg; have NB517_502 := bn_ BK502 hg; have NB507_517 := bm_ BK507 hg; have NB517_507 := bn_ BK507 hg; replace BK471 := bb_ BK471 hb; replace BK477 := bb_ BK477 hb; replace BK482 := bb_ BK482 hb; replace BK487 := bb_ BK487 hb; replace BK492 := bb_ BK492 hb; replace BK497 := bb_ BK497 hb; replace BK502 := bb_ BK502 hb; replace BK507 := bb_ BK507 hb; replace HB := bt_ HB hb; clear hb hg; have hnb314 := NB517_471.out; have hnc314 := NB471_517.out; have hnb315 := NB517_477.out; have hnc315 := NB477_517.out; have hnb316 := NB517_482.out; have hnc316 := NB482_517.out; have hnb317 := NB517_487.out; have hnc317 := NB487_517.out; have hnb318 := NB517_492.out; have hnc318 := NB492_517.out; have hnb319 := NB517_497.out; have hnc319 := NB497_517.out; have hnb320 := NB517_502.out; have hnc320 := NB502_517.out; have hnb321 := NB517_507.out; have hnc321 := NB507_517.out; obtain ⟨hcz322_0, hcz322_1, hcz322_2, hcz322_3, hfz322_0, hfz322_1, hfz322_2, hfz322_3⟩ := ch4_ BK517; obtain ⟨hcz323_0, hcz323_1, hcz323_2, hfz323_0, hfz323_1, hfz323_2⟩ := ch3_ BK502) | ((refine gc_ 24 ?_); refine ge_ 204 Try.func24 #[.int .i64 (rd y436 t439), .agg #[.int .i64 t512, .int .i64 t513, .int .i64 t514, .int .i64 t515], .agg #[.int .i64 t498, .int .i64 t499, .int .i64 t500]] ?_; (with_reducible refine (impl_MoveBall.calls kj157 (rd y436 t439) t512 t513 t514 t515 t498 t499 t500 t518 t519 t520 t521 _ A278.out).mono ?_); rintro e w324 ⟨rfl, hb⟩; refine ⟨_, rfl, ?_⟩; replace BK471 := fb_ BK471 NB471_517 hb; replace BK477 := fb_ BK477 NB477_517 hb; replace BK482 := fb_ BK482 NB482_517 hb; replace BK487 := fb_ BK487 NB487_517 hb; replace BK492 := fb_ BK492 NB492_517 hb; replace BK497 := fb_ BK497 NB497_517 hb; replace BK502 := fb_ BK502 NB502_517 hb; replace BK507 := fb_ BK507 NB507_517 hb; replace BK517 := Aside0.mk (blk_below (g := gb517) (o := .cells #[.int .i64 t512, .int .i64 t513, .int .i64 t514, .int .i64 t515] 46 (0, 0)) (bp_ BK517).out hb); replace HB := bt_ HB hb; (try clear hb)) | ((refine gd_ 32 ?_); refine bx_ 32 #[.int .i64 0, .int .i64 0, .int .i64 0] 25 ?_; intro gb522 hg w325 BK522 hb; have GW522 := bs_ HB hg; have GE522 := bs_ HB hg; have NB471_522 := bm_ BK471 hg; have NB522_471 := bn_ BK471 hg; have NB477_522 := bm_ BK477 hg; have NB522_477 := bn_ BK477 hg; have NB482_522 := bm_ BK482 hg; have NB522_482 := bn_ BK482 hg; have NB487_522 := bm_ BK487 hg; have NB522_487 := bn_ BK487 hg; have NB492_522 := bm_ BK492 hg; have NB522_492 := bn_ BK492 hg; have NB497_522 := bm_ BK497 hg; have NB522_497 := bn_ BK497 hg; have NB502_522 := bm_ BK502 hg; have NB522_502 := bn_ BK502 hg; have NB507_522 := bm_ BK507 hg; have NB522_507 := bn_ BK507 hg; have NB517_522 := bm_ BK517 hg; have NB522_517 := bn_ BK517 hg; replace BK471 := bb_ BK471 hb; replace BK477 := bb_ BK477 hb; replace BK482 := bb_ BK482 hb; replace BK487 := bb_ BK487 hb; replace BK492 := bb_ BK492 hb; replace BK497 := bb_ BK497 hb; replace BK502 := bb_ BK502 hb; replace BK507 := bb_ BK507 hb; replace BK517 := bb_ BK517 hb; replace HB := bt_ HB hb; clear hb hg; have hnb326 := NB522_471.out; have hnc326 := NB471_522.out; have hnb327 := NB522_477.out; have hnc327 := NB477_522.out; have hnb328 := NB522_482.out; have hnc328 := NB482_522.out; have hnb329 := NB522_487.out; have hnc329 := NB487_522.out; have hnb330 := NB522_492.out; have hnc330 := NB492_522.out; have hnb331 := NB522_497.out; have hnc331 := NB497_522.out; have hnb332 := NB522_502.out; have hnc332 := NB502_522.out; have hnb333 := NB522_507.out; have hnc333 := NB507_522.out; have hnb334 := NB522_517.out; have hnc334 := NB517_522.out; obtain ⟨hcz335_0, hcz335_1, hcz335_2, hfz335_0, hfz335_1, hfz335_2⟩ := ch3_ BK522; obtain ⟨hcz336_0, hcz336_1, hcz336_2, hfz336_0, hfz336_1, hfz336_2⟩ := ch3_ BK487))
                        go_ret
                        exact ⟨es_, (bw_ HB).out⟩
                       ·rw [if_neg c283] at H
                        exact absurd H (by simp)
                      ·rw [if_neg c282] at H
                       exact absurd H (by simp)
                     ·rw [if_neg c281] at H
                      exact absurd H (by simp)
                    ·rw [if_neg c280] at H
                     exact absurd H (by simp)
                   ·rw [if_neg c279] at H
                    exact absurd H (by simp)
   ·rw [if_neg c7] at H
    exact absurd H (by simp)
  ·rw [if_neg c6] at H
   exact absurd H (by simp)

/-- THE ONE PURE STATEMENT of laws_FnTop: yours. -/
def laws_FnTop.Pure : Prop := ∀ (l0 : List Int), l0.length ≤ maxLen → l0.length * 1 ≤ 140737488351232 → (∀ x ∈ l0, (Lit.int .u8 x).wf = true) → ∃ k, laws_FnTop.f k l0 = some true
theorem laws_FnTop.walk (P : laws_FnTop.Pure) (a0 : Option Addr) (len0 cap0 : Nat) (z0 : List Int) (w : World) (w0 : (a0 = none ∧ len0 = 0 ∧ cap0 = 0 ∧ z0 = []) ∨ ∃ x, a0 = some x ∧ len0 ≤ cap0 ∧ cap0 ≤ maxLen ∧ z0.length = cap0 ∧ (∀ i, i < z0.length → w.cell? (x.add i) = some (.int .u8 (z0.getD i 0))) ∧ ∀ n ∈ z0, (Lit.int .u8 n).wf = true) (y0 : len0 * 1 ≤ 140737488351232) :
  Calls Try.prog 4 #[.slice a0 len0 cap0] w fun e w' => e = .returned (.bool true) ∧ Below w.heap.size w w' := by
 obtain ⟨l0, rfl, hr0, hm0, hw0, hc0⟩ := ReadsInt.ofRowC w0
 obtain ⟨k, h⟩ := P l0 hm0 y0 hw0
 refine (laws_FnTop.calls k _ _ l0 true w (Kd.C_of_reads (d := (0 : Int)) (h1 := fun _ => rfl) hr0) hc0 h).mono ?_
 rintro e w' ⟨rfl, hd⟩
 exact ⟨rfl, hd⟩
end Go.Proofs.Ytgoeelhiffbjlaa.QT
