import Derived.Test.YtgoeelhiffbjlaaQPx9
import Derived.Test.YtgoeelhiffbjlaaQPx13
import Derived.Test.YtgoeelhiffbjlaaQPx31
import Derived.Test.YtgoeelhiffbjlaaQPx44
import Derived.Test.YtgoeelhiffbjlaaQPx52
import Derived.Test.YtgoeelhiffbjlaaQPx53
import Derived.Test.YtgoeelhiffbjlaaQPx58
import Derived.Test.YtgoeelhiffbjlaaQPx59
import Derived.Test.YtgoeelhiffbjlaaQPx60
import Derived.Test.YtgoeelhiffbjlaaQPx64
import Derived.Test.YtgoeelhiffbjlaaQPx71
import Derived.Test.YtgoeelhiffbjlaaQPx73
namespace Go.Proofs.Ytgoeelhiffbjlaa.QP
open Go.RowKit Go.Proofs.YtgoeelhiffbjlaaW.PrintWords Go.Proofs.YtgoeelhiffbjlaaW.PrintLast Go.Proofs.YtgoeelhiffbjlaaW.PrintMore
attribute [local go_sem] isSome_setCell max2_int min2_int max_two min_two max_three min_three max_four min_four
set_option linter.unusedVariables false
set_option linter.unusedSimpArgs false

attribute [local go_sem high] eqA25
/-! ### laws_FnPlaces: function 6 -/
mutual
def laws_FnPlaces.j0 : Nat → List Int → Int → Int → Int → Bool → Int → Int → Int → Int → Int → Int → Option (Bool)
 | 0, _, _, _, _, _, _, _, _, _, _, _ => none
 | k + 1, x0, x3, x5, x7, x75, x655000, x655001, x655002, x660000, x660001, x660002 => if x75 = true then (none) else (if x7 = 0 then ((impl_PlaceOfBall.f k x3 x655000 x655001 x655002 x660000 x660001 x660002).bind fun bt665 => ((impl_TreeDistance.f k x3 x655000 x655001 x655002 x660000 x660001 x660002).bind fun bt667 => (if bt665.2 = 0 then (if bt667.2 = 0 then (laws_FnPlaces.j1 k x0 x3 x5 bt667.1 (bt665.1 != x5)) else (laws_FnPlaces.j1 k x0 x3 x5 bt667.1 true)) else (laws_FnPlaces.j1 k x0 x3 x5 bt667.1 true)))) else (laws_FnPlaces.j4 k x0))
def laws_FnPlaces.j4 : Nat → List Int → Option (Bool)
 | 0, _ => none
 | k + 1, x0 => (spec_DrawChildPlaces.f k x0).bind fun bt671 => ((impl_ChildPlaces.f k bt671.1 bt671.2).bind fun bt673 => ((spec_ChildPlaces.f k bt671.1 bt671.2).bind fun bt677 => (if bt673.2 = bt677.2 then ((laws_likeInts.f k bt673.1 bt677.1).bind fun t681 => (laws_FnPlaces.j5 k x0 bt671.1 bt671.2 bt673.1 (!t681))) else (laws_FnPlaces.j5 k x0 bt671.1 bt671.2 bt673.1 true))))
def laws_FnPlaces.j5 : Nat → List Int → Int → Int → List Int → Bool → Option (Bool)
 | 0, _, _, _, _, _ => none
 | k + 1, x0, x18, x19, x20, x149 => if x149 = true then (none) else (laws_FnPlaces.l1 k x0 x18 x19 x20 0)
def laws_FnPlaces.j7 : Nat → List Int → Option (Bool)
 | 0, _ => none
 | k + 1, x0 => (spec_DrawPlaceOfBall.f k x0).bind fun bt686 => ((impl_PlaceOfBall.f k bt686.1 bt686.2.1 bt686.2.2.1 bt686.2.2.2.1 bt686.2.2.2.2.1 bt686.2.2.2.2.2.1 bt686.2.2.2.2.2.2).bind fun bt695 => ((spec_PlaceOfBall.f k bt686.1 bt686.2.1 bt686.2.2.1 bt686.2.2.2.1 bt686.2.2.2.2.1 bt686.2.2.2.2.2.1 bt686.2.2.2.2.2.2).bind fun bt697 => ((spec_DrawParentPlace.f k x0).bind fun bt699 => ((impl_ParentPlace.f bt699.1 bt699.2).bind fun bt701 => ((spec_ParentPlace.f bt699.1 bt699.2).bind fun bt703 => ((spec_DrawRegionSize.f k x0).bind fun bt705 => ((impl_RegionSize.f k bt705.1 bt705.2).bind fun bt707 => ((spec_RegionSize.f k bt705.1 bt705.2).bind fun bt709 => (if bt695.2 = bt697.2 then (if bt695.1 = bt697.1 then (if bt701.2 = bt703.2 then (if bt701.1 = bt703.1 then (if bt707.2 = bt709.2 then (some (bt707.1 == bt709.1)) else (none)) else (none)) else (none)) else (none)) else (none))))))))))
def laws_FnPlaces.l1 : Nat → List Int → Int → Int → List Int → Int → Option (Bool)
 | 0, _, _, _, _, _ => none
 | k + 1, x0, x18, x19, x20, x24 => if x24 < (x20.length : Int) then (if 0 ≤ x24 then (if (rd x20 x24) > 500 then (laws_FnPlaces.j7 k x0) else ((impl_ParentPlace.f x18 (rd x20 x24)).bind fun bt684 => (if bt684.2 = 0 then (if bt684.1 = x19 then (laws_FnPlaces.l1 k x0 x18 x19 x20 (wrap64 (x24 + 1))) else (none)) else (none)))) else (none)) else (laws_FnPlaces.j7 k x0)
def laws_FnPlaces.j1 : Nat → List Int → Int → Int → Int → Bool → Option (Bool)
 | 0, _, _, _, _, _ => none
 | k + 1, x0, x3, x5, x12, x102 => if x102 = true then (none) else (laws_FnPlaces.l0 k x0 x3 x12 0 x5)
def laws_FnPlaces.l0 : Nat → List Int → Int → Int → Int → Int → Option (Bool)
 | 0, _, _, _, _, _ => none
 | k + 1, x0, x3, x12, x14, x15 => if x15 > 0 then (laws_FnPlaces.j3 k x0 x3 x12 x14 x15 (decide (x14 < 9))) else (laws_FnPlaces.j3 k x0 x3 x12 x14 x15 false)
def laws_FnPlaces.j3 : Nat → List Int → Int → Int → Int → Int → Bool → Option (Bool)
 | 0, _, _, _, _, _, _ => none
 | k + 1, x0, x3, x12, x14, x15, x109 => if x109 = true then ((impl_ParentPlace.f x3 x15).bind fun bt669 => (if bt669.2 = 0 then (laws_FnPlaces.l0 k x0 x3 x12 (wrap64 (x14 + 1)) bt669.1) else (none))) else (if x14 = x12 then (laws_FnPlaces.j4 k x0) else (none))
end
def laws_FnPlaces.f (k : Nat) (l0 : List Int) : Option (Bool) := (laws_big.f l0).bind fun t648 => (if t648 = true then (some true) else ((spec_DrawBallOfPlace.f k l0).bind fun bt649 => ((impl_BallOfPlace.f k bt649.1 bt649.2.1 bt649.2.2.1 bt649.2.2.2.1 bt649.2.2.2.2).bind fun bt655 => ((spec_BallOfPlace.f k bt649.1 bt649.2.1 bt649.2.2.1 bt649.2.2.2.1 bt649.2.2.2.2).bind fun bt660 => (if bt655.2.2.2 = bt660.2.2.2 then (laws_FnPlaces.j0 k l0 bt649.1 bt649.2.2.2.2 bt655.2.2.2 (!(bt655.1 == bt660.1) || (!(bt655.2.1 == bt660.2.1) || (!(bt655.2.2.1 == bt660.2.2.1)))) bt649.2.1 bt649.2.2.1 bt649.2.2.2.1 bt655.1 bt655.2.1 bt655.2.2.1) else (laws_FnPlaces.j0 k l0 bt649.1 bt649.2.2.2.2 bt655.2.2.2 true bt649.2.1 bt649.2.2.1 bt649.2.2.2.1 bt655.1 bt655.2.1 bt655.2.2.1))))))
open Go in
theorem gwS_ {P : Program} {ops : Array Oper} {Q : Exit → Act → World → Prop} {rest : List Oper} {a : Act} {w : World} {p} {v} (h : ∀ w', w' = w.setCell p v → wpList P ops Q rest a w') : wpList P ops Q rest a (w.setCell p v) := h _ rfl
set_option maxHeartbeats 200000000 in
set_option maxRecDepth 100000 in
theorem laws_FnPlaces.calls (k : Nat) (A0 : Option Addr) (c0 : Nat) (l0 : List Int) (r : Bool) (w : World) (hr0 : Kd.C (Kd.int .u8) w A0 l0.length l0) (hc0 : l0.length ≤ c0) (h : laws_FnPlaces.f k l0 = some r) :
  Calls Try.prog 6 #[.slice A0 l0.length c0] w fun e w' => e = .returned (.bool r) ∧ Below w.heap.size w w' := by
 have hu25 := Try.underlying25
 have HR0 := Aside0.mk hr0
 have HC0 := Aside0.mk hc0
 clear hr0 hc0
 have HB := Aside0.mk (Below.refl w.heap.size w)
 unfold laws_FnPlaces.f at h
 have H := h
 clear h
 replace H := oc_ H
 obtain ⟨t648, A2, H⟩ := H
 replace H := ib_ H
 rcases H with ⟨rfl, H⟩ | ⟨rfl, H⟩
 ·obtain rfl := si_ H
  go_enter Try.func6, Try.ntmps6
  go_wp2_with (first | ((refine gc_ 8 ?_); refine ge_ 47 Try.func8 #[.slice A0 l0.length c0] ?_; (with_reducible refine (laws_big.calls _ _ l0 true _ ?side1 ?side2 A2.out).mono ?_); (case side1 => exact ca_ HR0.out); (case side2 => exact HC0.out); rintro e w' ⟨rfl, ⟨nd, rfl⟩⟩; refine ⟨_, rfl, ?_⟩))
  go_ret
  exact ⟨es_, (bw_ HB).out⟩
 replace H := oc_ H
 obtain ⟨⟨t649, t650, t651, t652, t653⟩, A4, H⟩ := H
 replace H := oc_ H
 obtain ⟨⟨t655, t656, t657, t658⟩, A5, H⟩ := H
 replace H := oc_ H
 obtain ⟨⟨t660, t661, t662, t663⟩, A6, H⟩ := H
 have HC7 := Aside0.mk H
 clear H
 go_enter Try.func6, Try.ntmps6
 go_upto_region 6 with (first | ((refine gc_ 8 ?_); refine ge_ 47 Try.func8 #[.slice A0 l0.length c0] ?_; (with_reducible refine (laws_big.calls _ _ l0 false _ ?side1 ?side2 A2.out).mono ?_); (case side1 => exact ca_ HR0.out); (case side2 => exact HC0.out); rintro e w' ⟨rfl, ⟨nd, rfl⟩⟩; refine ⟨_, rfl, ?_⟩) | ((refine gc_ 42 ?_); refine ge_ 50 Try.func42 #[.slice A0 l0.length c0] ?_; (with_reducible refine (spec_DrawBallOfPlace.calls k _ _ l0 t649 t650 t651 t652 t653 _ ?side1 ?side2 A4.out).mono ?_); (case side1 => exact ca_ HR0.out); (case side2 => exact HC0.out); rintro e w8 ⟨rfl, hb⟩; refine ⟨_, rfl, ?_⟩; replace HB := bt_ HB hb; (try clear hb)) | ((refine gd_ 4 ?_); refine by_ 4 #[.int .i64 0, .int .i64 0, .int .i64 0] 25 HB ?_; intro gb654 hg w9 BK654 hb GW654 HB_; replace HB := HB_; clear hb hg; obtain ⟨hcz10_0, hcz10_1, hcz10_2, hfz10_0, hfz10_1, hfz10_2⟩ := ch3_ BK654) | ((refine gc_ 43 ?_); refine ge_ 58 Try.func43 #[.int .i64 t649, .agg #[.int .i64 t650, .int .i64 t651, .int .i64 t652], .int .i64 t653] ?_; (with_reducible refine (impl_BallOfPlace.calls k t649 t650 t651 t652 t653 t655 t656 t657 t658 _ A5.out).mono ?_); rintro e w11 ⟨rfl, hb⟩; refine ⟨_, rfl, ?_⟩; replace BK654 := Aside0.mk (blk_below (g := gb654) (o := .cells #[.int .i64 t650, .int .i64 t651, .int .i64 t652] 25 (0, 0)) (bp_ BK654).out hb); replace HB := bt_ HB hb; (try clear hb)) | ((refine gd_ 6 ?_); refine by_ 6 #[.int .i64 0, .int .i64 0, .int .i64 0] 25 HB ?_; intro gb659 hg w12 BK659 hb GW659 HB_; have NB654_659 := bm_ BK654 hg; have NB659_654 := bn_ BK654 hg; replace BK654 := bb_ BK654 hb; replace HB := HB_; clear hb hg; have hnb13 := NB659_654.out; have hnc13 := NB654_659.out; obtain ⟨hcz14_0, hcz14_1, hcz14_2, hfz14_0, hfz14_1, hfz14_2⟩ := ch3_ BK659; obtain ⟨hcz15_0, hcz15_1, hcz15_2, hfz15_0, hfz15_1, hfz15_2⟩ := ch3_ BK654) | ((refine gc_ 44 ?_); refine ge_ 65 Try.func44 #[.int .i64 t649, .agg #[.int .i64 t650, .int .i64 t651, .int .i64 t652], .int .i64 t653] ?_; (with_reducible refine (spec_BallOfPlace.calls k t649 t650 t651 t652 t653 t660 t661 t662 t663 _ A6.out).mono ?_); rintro e w16 ⟨rfl, hb⟩; refine ⟨_, rfl, ?_⟩; replace BK654 := fb_ BK654 NB654_659 hb; replace BK659 := Aside0.mk (blk_below (g := gb659) (o := .cells #[.int .i64 t655, .int .i64 t656, .int .i64 t657] 25 (0, 0)) (bp_ BK659).out hb); replace HB := bt_ HB hb; (try clear hb)) | ((refine gd_ 8 ?_); refine by_ 8 #[.int .i64 0, .int .i64 0, .int .i64 0] 25 HB ?_; intro gb664 hg w17 BK664 hb GW664 HB_; have NB654_664 := bm_ BK654 hg; have NB664_654 := bn_ BK654 hg; have NB659_664 := bm_ BK659 hg; have NB664_659 := bn_ BK659 hg; replace BK654 := bb_ BK654 hb; replace BK659 := bb_ BK659 hb; replace HB := HB_; clear hb hg; have hnb18 := NB664_654.out; have hnc18 := NB654_664.out; have hnb19 := NB664_659.out; have hnc19 := NB659_664.out; obtain ⟨hcz20_0, hcz20_1, hcz20_2, hfz20_0, hfz20_1, hfz20_2⟩ := ch3_ BK664))
 (try simp only [Act.put, lstS, lstZ, lstC])
 go_cut [75] (fun v75 wc => ∃ (kq : Nat) (x75_6 : Bool), v75 = .bool x75_6 ∧ Aside0 (laws_FnPlaces.j0 kq l0 t649 t653 t658 x75_6 t650 t651 t652 t655 t656 t657 = some r) ∧ Aside0 (kq ≤ k) ∧ Aside0 (wc.heap[gb654]? = some (.cells #[.int .i64 t650, .int .i64 t651, .int .i64 t652] 25 (0, 0))) ∧ Aside0 (wc.heap[gb659]? = some (.cells #[.int .i64 t655, .int .i64 t656, .int .i64 t657] 25 (0, 0))) ∧ Aside0 (wc.heap[gb664]? = some (.cells #[.int .i64 t660, .int .i64 t661, .int .i64 t662] 25 (0, 0))) ∧ Aside0 (Below w.heap.size w wc))
 case first => as_aux_lemma =>
  have H := HC7.out
  clear HC7
  replace H := ie_ H
  rcases H with ⟨c21b0, c21b1, H⟩ | ⟨c21, c21b0, c21b1, H⟩
  ·(first | rw [c21b0] | (simp only [i64_w, i32_w]; rw [c21b0]) | skip)
   have H' := Aside0.mk H
   clear H
   have hnb22 := NB659_654.out
   have hnc22 := NB654_659.out
   have hnb23 := NB659_664.out
   have hnc23 := NB664_659.out
   obtain ⟨hcz24_0, hcz24_1, hcz24_2, hfz24_0, hfz24_1, hfz24_2⟩ := ch3_ BK659
   have hnb25 := NB664_654.out
   have hnc25 := NB654_664.out
   obtain ⟨hcz26_0, hcz26_1, hcz26_2, hfz26_0, hfz26_1, hfz26_2⟩ := ch3_ BK664
   go_wp2
   go_meet
   case rel => exact ⟨_, ((!(t655 == t660) || (!(t656 == t661) || (!(t657 == t662))))), en_, H', ⟨by first | omega | exact Nat.le_refl _⟩, fl_ BK654 NB654_664, fl_ BK659 NB659_664, bp_ BK664, bw_ HB⟩
  (first | rw [c21b0] | (simp only [i64_w, i32_w]; rw [c21b0]) | skip)
  have H' := Aside0.mk H
  clear H
  go_wp2
  go_meet
  case rel => exact ⟨_, (true), en_, H', ⟨by first | omega | exact Nat.le_refl _⟩, fl_ BK654 NB654_664, fl_ BK659 NB659_664, bp_ BK664, bw_ HB⟩
 case rest => as_aux_lemma =>
  clear HC7
  try clear c21
  try clear c21b0
  try clear c21b1
  try clear hcz10_0 hcz10_1 hcz10_2
  try clear hcz14_0 hcz14_1 hcz14_2
  try clear hcz15_0 hcz15_1 hcz15_2
  try clear hcz20_0 hcz20_1 hcz20_2
  try clear hcz24_0 hcz24_1 hcz24_2
  try clear hcz26_0 hcz26_1 hcz26_2
  try clear hfz10_0 hfz10_1 hfz10_2
  try clear hfz14_0 hfz14_1 hfz14_2
  try clear hfz15_0 hfz15_1 hfz15_2
  try clear hfz20_0 hfz20_1 hfz20_2
  try clear hfz24_0 hfz24_1 hfz24_2
  try clear hfz26_0 hfz26_1 hfz26_2
  obtain ⟨kq, x75_6, rfl, HA, HJ6, BK654, BK659, BK664, HB⟩ := hcut
  cases kq with
  | zero => exact absurd HA.out (by simp [laws_FnPlaces.j0])
  | succ kj6 =>
   have H := HA.out
   clear HA
   simp only [laws_FnPlaces.j0] at H
   replace H := ibf_ H
   obtain ⟨rfl, H⟩ := H
   have HC28 := Aside0.mk H
   clear H
   go_upto_if 77 with (fail)
   go_cut [] (fun wc => ∃ (kq : Nat), Aside0 (laws_FnPlaces.j4 kq l0 = some r) ∧ Aside0 (kq ≤ kj6) ∧ Aside0 (wc.heap[gb654]? = some (.cells #[.int .i64 t650, .int .i64 t651, .int .i64 t652] 25 (0, 0))) ∧ Aside0 (wc.heap[gb659]? = some (.cells #[.int .i64 t655, .int .i64 t656, .int .i64 t657] 25 (0, 0))) ∧ Aside0 (wc.heap[gb664]? = some (.cells #[.int .i64 t660, .int .i64 t661, .int .i64 t662] 25 (0, 0))) ∧ Aside0 (Below w.heap.size w wc))
   case first => as_aux_lemma =>
    have H := HC28.out
    clear HC28
    replace H := ie_ H
    rcases H with ⟨c29b0, c29b1, H⟩ | ⟨c29, c29b0, c29b1, H⟩
    ·(first | rw [c29b0] | (simp only [i64_w, i32_w]; rw [c29b0]) | skip)
     replace H := oc_ H
     obtain ⟨⟨t665, t666⟩, A30, H⟩ := H
     replace H := oc_ H
     obtain ⟨⟨t667, t668⟩, A31, H⟩ := H
     have HC32 := Aside0.mk H
     clear H
     have hnb33 := NB654_659.out
     have hnc33 := NB659_654.out
     have hnb34 := NB654_664.out
     have hnc34 := NB664_654.out
     obtain ⟨hcz35_0, hcz35_1, hcz35_2, hfz35_0, hfz35_1, hfz35_2⟩ := ch3_ BK654
     have hnb36 := NB659_664.out
     have hnc36 := NB664_659.out
     obtain ⟨hcz37_0, hcz37_1, hcz37_2, hfz37_0, hfz37_1, hfz37_2⟩ := ch3_ BK659
     go_upto_region 11 with (first | ((refine gc_ 45 ?_); refine ge_ 82 Try.func45 #[.int .i64 t649, .agg #[.int .i64 t650, .int .i64 t651, .int .i64 t652], .agg #[.int .i64 t655, .int .i64 t656, .int .i64 t657]] ?_; (with_reducible refine (impl_PlaceOfBall.calls kj6 t649 t650 t651 t652 t655 t656 t657 t665 t666 _ A30.out).mono ?_); rintro e w38 ⟨rfl, hb⟩; refine ⟨_, rfl, ?_⟩; replace BK654 := bb_ BK654 hb; replace BK659 := bb_ BK659 hb; replace BK664 := bb_ BK664 hb; replace HB := bt_ HB hb; (try clear hb); obtain ⟨hcz39_0, hcz39_1, hcz39_2, hfz39_0, hfz39_1, hfz39_2⟩ := ch3_ BK654; obtain ⟨hcz40_0, hcz40_1, hcz40_2, hfz40_0, hfz40_1, hfz40_2⟩ := ch3_ BK659) | ((refine gc_ 19 ?_); refine ge_ 89 Try.func19 #[.int .i64 t649, .agg #[.int .i64 t650, .int .i64 t651, .int .i64 t652], .agg #[.int .i64 t655, .int .i64 t656, .int .i64 t657]] ?_; (with_reducible refine (impl_TreeDistance.calls kj6 t649 t650 t651 t652 t655 t656 t657 t667 t668 _ A31.out).mono ?_); rintro e w41 ⟨rfl, hb⟩; refine ⟨_, rfl, ?_⟩; replace BK654 := bb_ BK654 hb; replace BK659 := bb_ BK659 hb; replace BK664 := bb_ BK664 hb; replace HB := bt_ HB hb; (try clear hb)))
     (try simp only [Act.put, lstS, lstZ, lstC])
     go_cut [102] (fun v102 wc => ∃ (kq : Nat) (x102_31 : Bool), v102 = .bool x102_31 ∧ Aside0 (laws_FnPlaces.j1 kq l0 t649 t653 t667 x102_31 = some r) ∧ Aside0 (kq ≤ kj6) ∧ Aside0 (wc.heap[gb654]? = some (.cells #[.int .i64 t650, .int .i64 t651, .int .i64 t652] 25 (0, 0))) ∧ Aside0 (wc.heap[gb659]? = some (.cells #[.int .i64 t655, .int .i64 t656, .int .i64 t657] 25 (0, 0))) ∧ Aside0 (wc.heap[gb664]? = some (.cells #[.int .i64 t660, .int .i64 t661, .int .i64 t662] 25 (0, 0))) ∧ Aside0 (Below w.heap.size w wc))
     case first => as_aux_lemma =>
      have H := HC32.out
      clear HC32
      replace H := ie_ H
      rcases H with ⟨c42b0, c42b1, H⟩ | ⟨c42, c42b0, c42b1, H⟩
      ·(first | rw [c42b0] | (simp only [i64_w, i32_w]; rw [c42b0]) | skip)
       replace H := ie_ H
       rcases H with ⟨c43b0, c43b1, H⟩ | ⟨c43, c43b0, c43b1, H⟩
       ·have H' := Aside0.mk H
        clear H
        go_wp2
        go_meet
        case rel => exact ⟨_, ((t665 != t653)), en_, H', ⟨by have := HJ6.out; first | omega | exact Nat.le_refl _⟩, bl_ BK654, bl_ BK659, bl_ BK664, bw_ HB⟩
       have H' := Aside0.mk H
       clear H
       go_wp2
       go_meet
       case rel => exact ⟨_, (true), en_, H', ⟨by have := HJ6.out; first | omega | exact Nat.le_refl _⟩, bl_ BK654, bl_ BK659, bl_ BK664, bw_ HB⟩
      (first | rw [c42b0] | (simp only [i64_w, i32_w]; rw [c42b0]) | skip)
      have H' := Aside0.mk H
      clear H
      go_wp2
      go_meet
      case rel => exact ⟨_, (true), en_, H', ⟨by have := HJ6.out; first | omega | exact Nat.le_refl _⟩, bl_ BK654, bl_ BK659, bl_ BK664, bw_ HB⟩
     case rest => as_aux_lemma =>
      clear HC32
      try clear c21
      try clear c21b0
      try clear c21b1
      try clear c29
      try clear c29b0
      try clear c29b1
      try clear c42
      try clear c42b0
      try clear c42b1
      try clear c43
      try clear c43b0
      try clear c43b1
      try clear hcz10_0 hcz10_1 hcz10_2
      try clear hcz14_0 hcz14_1 hcz14_2
      try clear hcz15_0 hcz15_1 hcz15_2
      try clear hcz20_0 hcz20_1 hcz20_2
      try clear hcz24_0 hcz24_1 hcz24_2
      try clear hcz26_0 hcz26_1 hcz26_2
      try clear hcz35_0 hcz35_1 hcz35_2
      try clear hcz37_0 hcz37_1 hcz37_2
      try clear hcz39_0 hcz39_1 hcz39_2
      try clear hcz40_0 hcz40_1 hcz40_2
      try clear hfz10_0 hfz10_1 hfz10_2
      try clear hfz14_0 hfz14_1 hfz14_2
      try clear hfz15_0 hfz15_1 hfz15_2
      try clear hfz20_0 hfz20_1 hfz20_2
      try clear hfz24_0 hfz24_1 hfz24_2
      try clear hfz26_0 hfz26_1 hfz26_2
      try clear hfz35_0 hfz35_1 hfz35_2
      try clear hfz37_0 hfz37_1 hfz37_2
      try clear hfz39_0 hfz39_1 hfz39_2
      try clear hfz40_0 hfz40_1 hfz40_2
      obtain ⟨kq, x102_31, rfl, HA, HJ31, BK654, BK659, BK664, HB⟩ := hcut
      cases kq with
      | zero => exact absurd HA.out (by simp [laws_FnPlaces.j1])
      | succ kj31 =>
       have H := HA.out
       clear HA
       simp only [laws_FnPlaces.j1] at H
       replace H := ibf_ H
       obtain ⟨rfl, H⟩ := H
       have H' := Aside0.mk H
       clear H
       go_wp2
       go_loopg [14, 15] kj31 (fun kq v14 v15 w' => ∃ (x14_3 : Int) (x15_3 : Int), v14 = .int .i64 x14_3 ∧ v15 = .int .i64 x15_3 ∧ Aside0 (laws_FnPlaces.l0 kq l0 t649 t667 x14_3 x15_3 = some r) ∧ Aside0 (kq ≤ kj31) ∧ Aside0 (w'.heap[gb654]? = some (.cells #[.int .i64 t650, .int .i64 t651, .int .i64 t652] 25 (0, 0))) ∧ Aside0 (w'.heap[gb659]? = some (.cells #[.int .i64 t655, .int .i64 t656, .int .i64 t657] 25 (0, 0))) ∧ Aside0 (w'.heap[gb664]? = some (.cells #[.int .i64 t660, .int .i64 t661, .int .i64 t662] 25 (0, 0))) ∧ Aside0 (Below w.heap.size w w'))
       case atStart => exact ⟨(0), (t653), en_, en_, H', ⟨Nat.le_refl _⟩, bl_ BK654, bl_ BK659, bl_ BK664, bw_ HB⟩
       case round => as_aux_lemma =>
        clear H'
        try clear c21
        try clear c21b0
        try clear c21b1
        try clear c29
        try clear c29b0
        try clear c29b1
        try clear c42
        try clear c42b0
        try clear c42b1
        try clear c43
        try clear c43b0
        try clear c43b1
        try clear hcz10_0 hcz10_1 hcz10_2
        try clear hcz14_0 hcz14_1 hcz14_2
        try clear hcz15_0 hcz15_1 hcz15_2
        try clear hcz20_0 hcz20_1 hcz20_2
        try clear hcz24_0 hcz24_1 hcz24_2
        try clear hcz26_0 hcz26_1 hcz26_2
        try clear hcz35_0 hcz35_1 hcz35_2
        try clear hcz37_0 hcz37_1 hcz37_2
        try clear hcz39_0 hcz39_1 hcz39_2
        try clear hcz40_0 hcz40_1 hcz40_2
        try clear hfz10_0 hfz10_1 hfz10_2
        try clear hfz14_0 hfz14_1 hfz14_2
        try clear hfz15_0 hfz15_1 hfz15_2
        try clear hfz20_0 hfz20_1 hfz20_2
        try clear hfz24_0 hfz24_1 hfz24_2
        try clear hfz26_0 hfz26_1 hfz26_2
        try clear hfz35_0 hfz35_1 hfz35_2
        try clear hfz37_0 hfz37_1 hfz37_2
        try clear hfz39_0 hfz39_1 hfz39_2
        try clear hfz40_0 hfz40_1 hfz40_2
        obtain ⟨x14_3, x15_3, rfl, rfl, HA, HK3, BK654, BK659, BK664, HB⟩ := hrel
        cases gk with
        | zero => exact absurd HA.out (by simp [laws_FnPlaces.l0])
        | succ k3 =>
         have H := HA.out
         clear HA
         simp only [laws_FnPlaces.l0] at H
         have HC45 := Aside0.mk H
         clear H
         go_upto_region 15 with (fail)
         go_cut [109] (fun v109 wc => ∃ (kq : Nat) (x109_44 : Bool), v109 = .bool x109_44 ∧ Aside0 (laws_FnPlaces.j3 kq l0 t649 t667 x14_3 x15_3 x109_44 = some r) ∧ Aside0 (kq ≤ k3) ∧ Aside0 (wc.heap[gb654]? = some (.cells #[.int .i64 t650, .int .i64 t651, .int .i64 t652] 25 (0, 0))) ∧ Aside0 (wc.heap[gb659]? = some (.cells #[.int .i64 t655, .int .i64 t656, .int .i64 t657] 25 (0, 0))) ∧ Aside0 (wc.heap[gb664]? = some (.cells #[.int .i64 t660, .int .i64 t661, .int .i64 t662] 25 (0, 0))) ∧ Aside0 (Below w.heap.size w wc))
         case first => as_aux_lemma =>
          have H := HC45.out
          clear HC45
          replace H := ig_ H
          rcases H with ⟨c46b0, H⟩ | ⟨c46b0, H⟩
          ·(first | rw [c46b0] | (simp only [i64_w, i32_w]; rw [c46b0]) | skip)
           have H' := Aside0.mk H
           clear H
           go_wp2
           go_meet
           case rel => exact ⟨_, (decide (x14_3 < 9)), en_, H', ⟨by have := HJ6.out; have := HJ31.out; have := HK3.out; first | omega | exact Nat.le_refl _⟩, bl_ BK654, bl_ BK659, bl_ BK664, bw_ HB⟩
          (first | rw [c46b0] | (simp only [i64_w, i32_w]; rw [c46b0]) | skip)
          have H' := Aside0.mk H
          clear H
          go_wp2
          go_meet
          case rel => exact ⟨_, (false), en_, H', ⟨by have := HJ6.out; have := HJ31.out; have := HK3.out; first | omega | exact Nat.le_refl _⟩, bl_ BK654, bl_ BK659, bl_ BK664, bw_ HB⟩
         case rest => as_aux_lemma =>
          clear HC45
          try clear c21
          try clear c21b0
          try clear c21b1
          try clear c29
          try clear c29b0
          try clear c29b1
          try clear c42
          try clear c42b0
          try clear c42b1
          try clear c43
          try clear c43b0
          try clear c43b1
          try clear c46b0
          try clear hcz10_0 hcz10_1 hcz10_2
          try clear hcz14_0 hcz14_1 hcz14_2
          try clear hcz15_0 hcz15_1 hcz15_2
          try clear hcz20_0 hcz20_1 hcz20_2
          try clear hcz24_0 hcz24_1 hcz24_2
          try clear hcz26_0 hcz26_1 hcz26_2
          try clear hcz35_0 hcz35_1 hcz35_2
          try clear hcz37_0 hcz37_1 hcz37_2
          try clear hcz39_0 hcz39_1 hcz39_2
          try clear hcz40_0 hcz40_1 hcz40_2
          try clear hfz10_0 hfz10_1 hfz10_2
          try clear hfz14_0 hfz14_1 hfz14_2
          try clear hfz15_0 hfz15_1 hfz15_2
          try clear hfz20_0 hfz20_1 hfz20_2
          try clear hfz24_0 hfz24_1 hfz24_2
          try clear hfz26_0 hfz26_1 hfz26_2
          try clear hfz35_0 hfz35_1 hfz35_2
          try clear hfz37_0 hfz37_1 hfz37_2
          try clear hfz39_0 hfz39_1 hfz39_2
          try clear hfz40_0 hfz40_1 hfz40_2
          obtain ⟨kq, x109_44, rfl, HA, HJ44, BK654, BK659, BK664, HB⟩ := hcut
          cases kq with
          | zero => exact absurd HA.out (by simp [laws_FnPlaces.j3])
          | succ kj44 =>
           have H := HA.out
           clear HA
           simp only [laws_FnPlaces.j3] at H
           replace H := ib_ H
           rcases H with ⟨rfl, H⟩ | ⟨rfl, H⟩
           ·replace H := oc_ H
            obtain ⟨⟨t669, t670⟩, A48, H⟩ := H
            replace H := ien_ H
            obtain ⟨c49b0, c49b1, H⟩ := H
            have H' := Aside0.mk H
            clear H
            go_wp2_with (first | ((refine gc_ 46 ?_); refine ge_ 115 Try.func46 #[.int .i64 t649, .int .i64 x15_3] ?_; (with_reducible refine (impl_ParentPlace.calls t649 x15_3 t669 t670 _ A48.out).mono ?_); rintro e w' ⟨rfl, ⟨nd, rfl⟩⟩; refine ⟨_, rfl, ?_⟩))
            go_roundg kj44
            case measure => have := HJ6.out; have := HJ31.out; have := HK3.out; have := HJ44.out; omega
            case rel => exact ⟨(wrap64 (x14_3 + 1)), (t669), en_, en_, H', ⟨by have := HJ6.out; have := HJ31.out; have := HK3.out; have := HJ44.out; omega⟩, bl_ BK654, bl_ BK659, bl_ BK664, bw_ HB⟩
           replace H := ien_ H
           obtain ⟨c50b0, c50b1, H⟩ := H
           have H' := Aside0.mk H
           clear H
           go_wp2
           go_meet
           case rel => exact ⟨_, H', ⟨by have := HJ6.out; have := HJ31.out; have := HK3.out; have := HJ44.out; first | omega | exact Nat.le_refl _⟩, bl_ BK654, bl_ BK659, bl_ BK664, bw_ HB⟩
    (first | rw [c29b0] | (simp only [i64_w, i32_w]; rw [c29b0]) | skip)
    have H' := Aside0.mk H
    clear H
    go_wp2
    go_meet
    case rel => exact ⟨_, H', ⟨by have := HJ6.out; first | omega | exact Nat.le_refl _⟩, bl_ BK654, bl_ BK659, bl_ BK664, bw_ HB⟩
   case rest => as_aux_lemma =>
    clear HC28
    try clear c21
    try clear c21b0
    try clear c21b1
    try clear c29
    try clear c29b0
    try clear c29b1
    try clear c42
    try clear c42b0
    try clear c42b1
    try clear c43
    try clear c43b0
    try clear c43b1
    try clear c46b0
    try clear c49b0
    try clear c49b1
    try clear c50b0
    try clear c50b1
    try clear hcz10_0 hcz10_1 hcz10_2
    try clear hcz14_0 hcz14_1 hcz14_2
    try clear hcz15_0 hcz15_1 hcz15_2
    try clear hcz20_0 hcz20_1 hcz20_2
    try clear hcz24_0 hcz24_1 hcz24_2
    try clear hcz26_0 hcz26_1 hcz26_2
    try clear hcz35_0 hcz35_1 hcz35_2
    try clear hcz37_0 hcz37_1 hcz37_2
    try clear hcz39_0 hcz39_1 hcz39_2
    try clear hcz40_0 hcz40_1 hcz40_2
    try clear hfz10_0 hfz10_1 hfz10_2
    try clear hfz14_0 hfz14_1 hfz14_2
    try clear hfz15_0 hfz15_1 hfz15_2
    try clear hfz20_0 hfz20_1 hfz20_2
    try clear hfz24_0 hfz24_1 hfz24_2
    try clear hfz26_0 hfz26_1 hfz26_2
    try clear hfz35_0 hfz35_1 hfz35_2
    try clear hfz37_0 hfz37_1 hfz37_2
    try clear hfz39_0 hfz39_1 hfz39_2
    try clear hfz40_0 hfz40_1 hfz40_2
    obtain ⟨kq, HA, HJ27, BK654, BK659, BK664, HB⟩ := hcut
    cases kq with
    | zero => exact absurd HA.out (by simp [laws_FnPlaces.j4])
    | succ kj27 =>
     have H := HA.out
     clear HA
     simp only [laws_FnPlaces.j4] at H
     replace H := oc_ H
     obtain ⟨⟨t671, t672⟩, A51, H⟩ := H
     replace H := oc_ H
     obtain ⟨⟨t673, t674⟩, A52, H⟩ := H
     replace H := oc_ H
     obtain ⟨⟨t677, t678⟩, A53, H⟩ := H
     have HC54 := Aside0.mk H
     clear H
     go_upto_region 26 with (first | ((refine gc_ 47 ?_); refine ge_ 126 Try.func47 #[.slice A0 l0.length c0] ?_; (with_reducible refine (spec_DrawChildPlaces.calls kj27 _ _ l0 t671 t672 _ ?side1 ?side2 A51.out).mono ?_); (case side1 => exact ca_ (Kd.C_below HR0.out HB.out)); (case side2 => exact HC0.out); rintro e w55 ⟨rfl, hb⟩; refine ⟨_, rfl, ?_⟩; replace BK654 := bb_ BK654 hb; replace BK659 := bb_ BK659 hb; replace BK664 := bb_ BK664 hb; replace HB := bt_ HB hb; (try clear hb)) | ((refine gc_ 48 ?_); refine ge_ 132 Try.func48 #[.int .i64 t671, .int .i64 t672] ?_; (with_reducible refine (impl_ChildPlaces.calls kj27 t671 t672 t673 t674 _ A52.out).mono ?_); rintro e w56 ⟨v675, rfl, ho0, hb⟩; refine ⟨_, rfl, ?_⟩; have HO676 := Aside0.mk (Kd.R_lower ho0 (below_size (bw_ HB).out)); replace BK654 := bb_ BK654 hb; replace BK659 := bb_ BK659 hb; replace BK664 := bb_ BK664 hb; replace HB := bt_ HB hb; (try clear hb); (try clear ho0)) | ((refine gc_ 49 ?_); refine ge_ 138 Try.func49 #[.int .i64 t671, .int .i64 t672] ?_; (with_reducible refine (spec_ChildPlaces.calls kj27 t671 t672 t677 t678 _ A53.out).mono ?_); rintro e w57 ⟨v679, rfl, ho0, hb⟩; refine ⟨_, rfl, ?_⟩; have HO680 := Aside0.mk (Kd.R_lower (Kd.R_new' ho0 (Kd.R_lt (ra_ HO676.out))) (below_size (bw_ HB).out)); replace HO676 := Aside0.mk (Kd.R_elder' (ra_ HO676.out) (Kd.R_base ho0) hb); replace BK654 := bb_ BK654 hb; replace BK659 := bb_ BK659 hb; replace BK664 := bb_ BK664 hb; replace HB := bt_ HB hb; (try clear hb); (try clear ho0)))
     (try simp only [Act.put, lstS, lstZ, lstC])
     go_cut [149] (fun v149 wc => ∃ (kq : Nat) (x149_53 : Bool), v149 = .bool x149_53 ∧ Aside0 (laws_FnPlaces.j5 kq l0 t671 t672 t673 x149_53 = some r) ∧ Aside0 (kq ≤ kj27) ∧ Aside0 (Kd.R (Kd.int .i64) 2 wc w.heap.size (fun _ => True) v675 t673) ∧ Aside0 (wc.heap[gb654]? = some (.cells #[.int .i64 t650, .int .i64 t651, .int .i64 t652] 25 (0, 0))) ∧ Aside0 (wc.heap[gb659]? = some (.cells #[.int .i64 t655, .int .i64 t656, .int .i64 t657] 25 (0, 0))) ∧ Aside0 (wc.heap[gb664]? = some (.cells #[.int .i64 t660, .int .i64 t661, .int .i64 t662] 25 (0, 0))) ∧ Aside0 (Below w.heap.size w wc))
     case first => as_aux_lemma =>
      have H := HC54.out
      clear HC54
      replace H := ie_ H
      rcases H with ⟨c58b0, c58b1, H⟩ | ⟨c58, c58b0, c58b1, H⟩
      ·(first | rw [c58b0] | (simp only [i64_w, i32_w]; rw [c58b0]) | skip)
       replace H := oc_ H
       obtain ⟨t681, A59, H⟩ := H
       have H' := Aside0.mk H
       clear H
       obtain ⟨Ao60, co60, eo60⟩ := Kd.R_slice HO676.out
       subst eo60
       obtain ⟨Ao61, co61, eo61⟩ := Kd.R_slice HO680.out
       subst eo61
       go_wp2_with (first | (go_at_call 50; (with_reducible refine (laws_likeInts.calls kj27 _ _ t673 _ _ t677 t681 _ ?side1 ?side2 ?side3 ?side4 A59.out).mono ?_); (case side1 => exact ca_ (Kd.R_reads' HO676.out).2.2); (case side2 => exact (Kd.R_reads' HO676.out).2.1); (case side3 => exact ca_ (Kd.R_reads' HO680.out).2.2); (case side4 => exact (Kd.R_reads' HO680.out).2.1); rintro e w' ⟨rfl, ⟨nd, rfl⟩⟩))
       go_meet
       case rel => exact ⟨_, (!t681), en_, H', ⟨by have := HJ6.out; have := HJ27.out; first | omega | exact Nat.le_refl _⟩, ⟨by (with_reducible repeat (first | apply Kd.R_alloc | apply Kd.R_drewN | apply Kd.R_drew)); exact Kd.R_mono HO676.out (fun _ hk => trivial)⟩, bl_ BK654, bl_ BK659, bl_ BK664, bw_ HB⟩
      (first | rw [c58b0] | (simp only [i64_w, i32_w]; rw [c58b0]) | skip)
      have H' := Aside0.mk H
      clear H
      go_wp2
      go_meet
      case rel => exact ⟨_, (true), en_, H', ⟨by have := HJ6.out; have := HJ27.out; first | omega | exact Nat.le_refl _⟩, ⟨by (with_reducible repeat (first | apply Kd.R_alloc | apply Kd.R_drewN | apply Kd.R_drew)); exact Kd.R_mono HO676.out (fun _ hk => trivial)⟩, bl_ BK654, bl_ BK659, bl_ BK664, bw_ HB⟩
     case rest => as_aux_lemma =>
      clear HC54
      try clear c21
      try clear c21b0
      try clear c21b1
      try clear c29
      try clear c29b0
      try clear c29b1
      try clear c42
      try clear c42b0
      try clear c42b1
      try clear c43
      try clear c43b0
      try clear c43b1
      try clear c46b0
      try clear c49b0
      try clear c49b1
      try clear c50b0
      try clear c50b1
      try clear c58
      try clear c58b0
      try clear c58b1
      try clear hcz10_0 hcz10_1 hcz10_2
      try clear hcz14_0 hcz14_1 hcz14_2
      try clear hcz15_0 hcz15_1 hcz15_2
      try clear hcz20_0 hcz20_1 hcz20_2
      try clear hcz24_0 hcz24_1 hcz24_2
      try clear hcz26_0 hcz26_1 hcz26_2
      try clear hcz35_0 hcz35_1 hcz35_2
      try clear hcz37_0 hcz37_1 hcz37_2
      try clear hcz39_0 hcz39_1 hcz39_2
      try clear hcz40_0 hcz40_1 hcz40_2
      try clear hfz10_0 hfz10_1 hfz10_2
      try clear hfz14_0 hfz14_1 hfz14_2
      try clear hfz15_0 hfz15_1 hfz15_2
      try clear hfz20_0 hfz20_1 hfz20_2
      try clear hfz24_0 hfz24_1 hfz24_2
      try clear hfz26_0 hfz26_1 hfz26_2
      try clear hfz35_0 hfz35_1 hfz35_2
      try clear hfz37_0 hfz37_1 hfz37_2
      try clear hfz39_0 hfz39_1 hfz39_2
      try clear hfz40_0 hfz40_1 hfz40_2
      obtain ⟨kq, x149_53, rfl, HA, HJ53, HO_20, BK654, BK659, BK664, HB⟩ := hcut
      cases kq with
      | zero => exact absurd HA.out (by simp [laws_FnPlaces.j5])
      | succ kj53 =>
       have H := HA.out
       clear HA
       simp only [laws_FnPlaces.j5] at H
       replace H := ibf_ H
       obtain ⟨rfl, H⟩ := H
       have HC63 := Aside0.mk H
       clear H
       go_upto_block 2 with (fail)
       go_cut [] (fun wc => ∃ (kq : Nat), Aside0 (laws_FnPlaces.j7 kq l0 = some r) ∧ Aside0 (kq ≤ kj53) ∧ Aside0 (wc.heap[gb654]? = some (.cells #[.int .i64 t650, .int .i64 t651, .int .i64 t652] 25 (0, 0))) ∧ Aside0 (wc.heap[gb659]? = some (.cells #[.int .i64 t655, .int .i64 t656, .int .i64 t657] 25 (0, 0))) ∧ Aside0 (wc.heap[gb664]? = some (.cells #[.int .i64 t660, .int .i64 t661, .int .i64 t662] 25 (0, 0))) ∧ Aside0 (Below w.heap.size w wc))
       case first => as_aux_lemma =>
        have H := HC63.out
        clear HC63
        have H' := Aside0.mk H
        clear H
        go_wp2
        go_loopg [24] kj53 (fun kq v24 w' => ∃ (x24_4 : Int), v24 = .int .i64 x24_4 ∧ Aside0 (laws_FnPlaces.l1 kq l0 t671 t672 t673 x24_4 = some r) ∧ Aside0 (kq ≤ kj53) ∧ Aside0 (Kd.R (Kd.int .i64) 2 w' w.heap.size (fun _ => True) v675 t673) ∧ Aside0 (w'.heap[gb654]? = some (.cells #[.int .i64 t650, .int .i64 t651, .int .i64 t652] 25 (0, 0))) ∧ Aside0 (w'.heap[gb659]? = some (.cells #[.int .i64 t655, .int .i64 t656, .int .i64 t657] 25 (0, 0))) ∧ Aside0 (w'.heap[gb664]? = some (.cells #[.int .i64 t660, .int .i64 t661, .int .i64 t662] 25 (0, 0))) ∧ Aside0 (Below w.heap.size w w'))
        case atStart => exact ⟨(0), en_, H', ⟨Nat.le_refl _⟩, ⟨by (with_reducible repeat (first | apply Kd.R_alloc | apply Kd.R_drewN | apply Kd.R_drew)); exact HO_20.out⟩, bl_ BK654, bl_ BK659, bl_ BK664, bw_ HB⟩
        case round => as_aux_lemma =>
         clear H'
         try clear c21
         try clear c21b0
         try clear c21b1
         try clear c29
         try clear c29b0
         try clear c29b1
         try clear c42
         try clear c42b0
         try clear c42b1
         try clear c43
         try clear c43b0
         try clear c43b1
         try clear c46b0
         try clear c49b0
         try clear c49b1
         try clear c50b0
         try clear c50b1
         try clear c58
         try clear c58b0
         try clear c58b1
         try clear hcz10_0 hcz10_1 hcz10_2
         try clear hcz14_0 hcz14_1 hcz14_2
         try clear hcz15_0 hcz15_1 hcz15_2
         try clear hcz20_0 hcz20_1 hcz20_2
         try clear hcz24_0 hcz24_1 hcz24_2
         try clear hcz26_0 hcz26_1 hcz26_2
         try clear hcz35_0 hcz35_1 hcz35_2
         try clear hcz37_0 hcz37_1 hcz37_2
         try clear hcz39_0 hcz39_1 hcz39_2
         try clear hcz40_0 hcz40_1 hcz40_2
         try clear hfz10_0 hfz10_1 hfz10_2
         try clear hfz14_0 hfz14_1 hfz14_2
         try clear hfz15_0 hfz15_1 hfz15_2
         try clear hfz20_0 hfz20_1 hfz20_2
         try clear hfz24_0 hfz24_1 hfz24_2
         try clear hfz26_0 hfz26_1 hfz26_2
         try clear hfz35_0 hfz35_1 hfz35_2
         try clear hfz37_0 hfz37_1 hfz37_2
         try clear hfz39_0 hfz39_1 hfz39_2
         try clear hfz40_0 hfz40_1 hfz40_2
         obtain ⟨x24_4, rfl, HA, HK4, HO_20, BK654, BK659, BK664, HB⟩ := hrel
         cases gk with
         | zero => exact absurd HA.out (by simp [laws_FnPlaces.l1])
         | succ k4 =>
          have H := HA.out
          clear HA
          simp only [laws_FnPlaces.l1] at H
          replace H := il_ H
          rcases H with ⟨c64b0, H⟩ | ⟨c64b0, H⟩
          ·(first | rw [c64b0] | (simp only [i64_w, i32_w]; rw [c64b0]) | skip)
           replace H := imn_ H
           obtain ⟨c65b0, H⟩ := H
           replace H := ig_ H
           rcases H with ⟨c66b0, H⟩ | ⟨c66b0, H⟩
           ·have H' := Aside0.mk H
            clear H
            obtain ⟨Ao67, co67, eo67⟩ := Kd.R_slice HO_20.out
            subst eo67
            have p682 : 0 ≤ (x24_4 : Int) := od_
            have q682 : x24_4 < (t673.length : Int) := od_
            obtain ⟨ad682, e682, hx682_0⟩ := Kd.at_int (Kd.R_reads' HO_20.out).2.2 x24_4 p682 q682
            cases e682
            replace p682 := eq_true p682
            replace q682 := eq_true q682
            go_wp2
            go_meet
            case rel => exact ⟨_, H', ⟨by have := HJ6.out; have := HJ27.out; have := HJ53.out; have := HK4.out; first | omega | exact Nat.le_refl _⟩, bl_ BK654, bl_ BK659, bl_ BK664, bw_ HB⟩
           replace H := oc_ H
           obtain ⟨⟨t684, t685⟩, A68, H⟩ := H
           replace H := ien_ H
           obtain ⟨c69b0, c69b1, H⟩ := H
           replace H := ien_ H
           obtain ⟨c70b0, c70b1, H⟩ := H
           have H' := Aside0.mk H
           clear H
           obtain ⟨Ao71, co71, eo71⟩ := Kd.R_slice HO_20.out
           subst eo71
           have p682 : 0 ≤ (x24_4 : Int) := od_
           have q682 : x24_4 < (t673.length : Int) := od_
           obtain ⟨ad682, e682, hx682_0⟩ := Kd.at_int (Kd.R_reads' HO_20.out).2.2 x24_4 p682 q682
           cases e682
           replace p682 := eq_true p682
           replace q682 := eq_true q682
           have p683 : 0 ≤ (x24_4 : Int) := od_
           have q683 : x24_4 < (t673.length : Int) := od_
           obtain ⟨ad683, e683, hx683_0⟩ := Kd.at_int (Kd.R_reads' HO_20.out).2.2 x24_4 p683 q683
           obtain rfl : ad682 = ad683 := (by injection e683)
           replace p683 := eq_true p683
           replace q683 := eq_true q683
           go_wp2_with (first | ((refine gc_ 46 ?_); refine ge_ 167 Try.func46 #[.int .i64 t671, .int .i64 (rd t673 x24_4)] ?_; (with_reducible refine (impl_ParentPlace.calls t671 (rd t673 x24_4) t684 t685 _ A68.out).mono ?_); rintro e w' ⟨rfl, ⟨nd, rfl⟩⟩; refine ⟨_, rfl, ?_⟩))
           go_roundg k4
           case measure => have := HJ6.out; have := HJ27.out; have := HJ53.out; have := HK4.out; omega
           case rel => exact ⟨(wrap64 (x24_4 + 1)), en_, H', ⟨by have := HJ6.out; have := HJ27.out; have := HJ53.out; have := HK4.out; omega⟩, ⟨by (with_reducible repeat (first | apply Kd.R_alloc | apply Kd.R_drewN | apply Kd.R_drew)); exact HO_20.out⟩, bl_ BK654, bl_ BK659, bl_ BK664, bw_ HB⟩
          (first | rw [c64b0] | (simp only [i64_w, i32_w]; rw [c64b0]) | skip)
          have H' := Aside0.mk H
          clear H
          obtain ⟨Ao72, co72, eo72⟩ := Kd.R_slice HO_20.out
          subst eo72
          go_wp2
          go_meet
          case rel => exact ⟨_, H', ⟨by have := HJ6.out; have := HJ27.out; have := HJ53.out; have := HK4.out; first | omega | exact Nat.le_refl _⟩, bl_ BK654, bl_ BK659, bl_ BK664, bw_ HB⟩
       case rest => as_aux_lemma =>
        clear HC63
        try clear c21
        try clear c21b0
        try clear c21b1
        try clear c29
        try clear c29b0
        try clear c29b1
        try clear c42
        try clear c42b0
        try clear c42b1
        try clear c43
        try clear c43b0
        try clear c43b1
        try clear c46b0
        try clear c49b0
        try clear c49b1
        try clear c50b0
        try clear c50b1
        try clear c58
        try clear c58b0
        try clear c58b1
        try clear c64b0
        try clear c65b0
        try clear c66b0
        try clear c69b0
        try clear c69b1
        try clear c70b0
        try clear c70b1
        try clear hcz10_0 hcz10_1 hcz10_2
        try clear hcz14_0 hcz14_1 hcz14_2
        try clear hcz15_0 hcz15_1 hcz15_2
        try clear hcz20_0 hcz20_1 hcz20_2
        try clear hcz24_0 hcz24_1 hcz24_2
        try clear hcz26_0 hcz26_1 hcz26_2
        try clear hcz35_0 hcz35_1 hcz35_2
        try clear hcz37_0 hcz37_1 hcz37_2
        try clear hcz39_0 hcz39_1 hcz39_2
        try clear hcz40_0 hcz40_1 hcz40_2
        try clear hfz10_0 hfz10_1 hfz10_2
        try clear hfz14_0 hfz14_1 hfz14_2
        try clear hfz15_0 hfz15_1 hfz15_2
        try clear hfz20_0 hfz20_1 hfz20_2
        try clear hfz24_0 hfz24_1 hfz24_2
        try clear hfz26_0 hfz26_1 hfz26_2
        try clear hfz35_0 hfz35_1 hfz35_2
        try clear hfz37_0 hfz37_1 hfz37_2
        try clear hfz39_0 hfz39_1 hfz39_2
        try clear hfz40_0 hfz40_1 hfz40_2
        try clear hx682_0
        try clear hx683_0
        try clear p682
        try clear p683
        try clear q682
        try clear q683
        obtain ⟨kq, HA, HJ62, BK654, BK659, BK664, HB⟩ := hcut
        cases kq with
        | zero => exact absurd HA.out (by simp [laws_FnPlaces.j7])
        | succ kj62 =>
         have H := HA.out
         clear HA
         simp only [laws_FnPlaces.j7] at H
         replace H := oc_ H
         obtain ⟨⟨t686, t687, t688, t689, t690, t691, t692⟩, A73, H⟩ := H
         replace H := oc_ H
         obtain ⟨⟨t695, t696⟩, A74, H⟩ := H
         replace H := oc_ H
         obtain ⟨⟨t697, t698⟩, A75, H⟩ := H
         replace H := oc_ H
         obtain ⟨⟨t699, t700⟩, A76, H⟩ := H
         replace H := oc_ H
         obtain ⟨⟨t701, t702⟩, A77, H⟩ := H
         replace H := oc_ H
         obtain ⟨⟨t703, t704⟩, A78, H⟩ := H
         replace H := oc_ H
         obtain ⟨⟨t705, t706⟩, A79, H⟩ := H
         replace H := oc_ H
         obtain ⟨⟨t707, t708⟩, A80, H⟩ := H
         replace H := oc_ H
         obtain ⟨⟨t709, t710⟩, A81, H⟩ := H
         replace H := ien_ H
         obtain ⟨c82b0, c82b1, H⟩ := H
         replace H := ien_ H
         obtain ⟨c83b0, c83b1, H⟩ := H
         replace H := ien_ H
         obtain ⟨c84b0, c84b1, H⟩ := H
         replace H := ien_ H
         obtain ⟨c85b0, c85b1, H⟩ := H
         replace H := ien_ H
         obtain ⟨c86b0, c86b1, H⟩ := H
         obtain rfl := si_ H
         go_wp2_with (first | ((refine gd_ 184 ?_); (with_reducible refine gwS_ ?_); intro wg1 hq_; have n0_ : Aside0 (wg1.heap[gb654]? = some (.cells #[.int .i64 t650, .int .i64 t651, .int .i64 t652] 25 (0, 0))) := ⟨by rw [hq_]; exact (bp_ BK654).out⟩; have n1_ : Aside0 (wg1.heap[gb659]? = some (.cells #[.int .i64 t655, .int .i64 t656, .int .i64 t657] 25 (0, 0))) := ⟨by rw [hq_]; exact (bp_ BK659).out⟩; have n2_ : Aside0 (wg1.heap[gb664]? = some (.cells #[.int .i64 t660, .int .i64 t661, .int .i64 t662] 25 (0, 0))) := ⟨by rw [hq_]; exact (bp_ BK664).out⟩; have n3_ : Aside0 (wg1.heap[gb693]? = some (.cells #[.int .i64 t687, .int .i64 t688, .int .i64 t689] 25 (0, 0))) := ⟨by rw [hq_]; exact (bp_ BK693).out⟩; have n4_ : Aside0 (wg1.heap[gb694]? = some (.cells #[.int .i64 t690, .int .i64 t691, .int .i64 t692] 25 (0, 0))) := ⟨by rw [hq_]; exact (bp_ BK694).out⟩; have nh_ : Aside0 (Below w.heap.size w wg1) := ⟨by rw [hq_]; exact (bw_ HB).out⟩; clear hq_ HB BK654 BK659 BK664 BK693 BK694; have BK654 := n0_; have BK659 := n1_; have BK664 := n2_; have BK693 := n3_; have BK694 := n4_; have HB := nh_; clear nh_ n0_ n1_ n2_ n3_ n4_; obtain ⟨hg2_0, hg2_1, hg2_2, hg2_3, hg2_4, hg2_5⟩ := ch3_ BK693; obtain ⟨hg3_0, hg3_1, hg3_2, hg3_3, hg3_4, hg3_5⟩ := ch3_ BK694) | ((refine gc_ 51 ?_); refine ge_ 179 Try.func51 #[.slice A0 l0.length c0] ?_; (with_reducible refine (spec_DrawPlaceOfBall.calls kj62 _ _ l0 t686 t687 t688 t689 t690 t691 t692 _ ?side1 ?side2 A73.out).mono ?_); (case side1 => exact ca_ (Kd.C_below HR0.out HB.out)); (case side2 => exact HC0.out); rintro e w87 ⟨rfl, hb⟩; refine ⟨_, rfl, ?_⟩; replace BK654 := bb_ BK654 hb; replace BK659 := bb_ BK659 hb; replace BK664 := bb_ BK664 hb; replace HB := bt_ HB hb; (try clear hb)) | ((refine gd_ 28 ?_); refine by_ 28 #[.int .i64 0, .int .i64 0, .int .i64 0] 25 HB ?_; intro gb693 hg w88 BK693 hb GW693 HB_; have NB654_693 := bm_ BK654 hg; have NB693_654 := bn_ BK654 hg; have NB659_693 := bm_ BK659 hg; have NB693_659 := bn_ BK659 hg; have NB664_693 := bm_ BK664 hg; have NB693_664 := bn_ BK664 hg; replace BK654 := bb_ BK654 hb; replace BK659 := bb_ BK659 hb; replace BK664 := bb_ BK664 hb; replace HB := HB_; clear hb hg) | ((refine gd_ 29 ?_); refine by_ 29 #[.int .i64 0, .int .i64 0, .int .i64 0] 25 HB ?_; intro gb694 hg w89 BK694 hb GW694 HB_; have NB654_694 := bm_ BK654 hg; have NB694_654 := bn_ BK654 hg; have NB659_694 := bm_ BK659 hg; have NB694_659 := bn_ BK659 hg; have NB664_694 := bm_ BK664 hg; have NB694_664 := bn_ BK664 hg; have NB693_694 := bm_ BK693 hg; have NB694_693 := bn_ BK693 hg; replace BK654 := bb_ BK654 hb; replace BK659 := bb_ BK659 hb; replace BK664 := bb_ BK664 hb; replace BK693 := bb_ BK693 hb; replace HB := HB_; clear hb hg; have hnb90 := NB693_654.out; have hnc90 := NB654_693.out; have hnb91 := NB693_659.out; have hnc91 := NB659_693.out; have hnb92 := NB693_664.out; have hnc92 := NB664_693.out; have hnb93 := NB693_694.out; have hnc93 := NB694_693.out; obtain ⟨hcz94_0, hcz94_1, hcz94_2, hfz94_0, hfz94_1, hfz94_2⟩ := ch3_ BK693; have hnb95 := NB694_654.out; have hnc95 := NB654_694.out; have hnb96 := NB694_659.out; have hnc96 := NB659_694.out; have hnb97 := NB694_664.out; have hnc97 := NB664_694.out; obtain ⟨hcz98_0, hcz98_1, hcz98_2, hfz98_0, hfz98_1, hfz98_2⟩ := ch3_ BK694) | ((refine gc_ 45 ?_); refine ge_ 187 Try.func45 #[.int .i64 t686, .agg #[.int .i64 t687, .int .i64 t688, .int .i64 t689], .agg #[.int .i64 t690, .int .i64 t691, .int .i64 t692]] ?_; (with_reducible refine (impl_PlaceOfBall.calls kj62 t686 t687 t688 t689 t690 t691 t692 t695 t696 _ A74.out).mono ?_); rintro e w99 ⟨rfl, hb⟩; refine ⟨_, rfl, ?_⟩; replace BK654 := Aside0.mk (blk_below (g := gb654) (o := .cells #[.int .i64 t650, .int .i64 t651, .int .i64 t652] 25 (0, 0)) (bp_ BK654).out hb); replace BK659 := Aside0.mk (blk_below (g := gb659) (o := .cells #[.int .i64 t655, .int .i64 t656, .int .i64 t657] 25 (0, 0)) (bp_ BK659).out hb); replace BK664 := Aside0.mk (blk_below (g := gb664) (o := .cells #[.int .i64 t660, .int .i64 t661, .int .i64 t662] 25 (0, 0)) (bp_ BK664).out hb); replace BK693 := Aside0.mk (blk_below (g := gb693) (o := .cells #[.int .i64 t687, .int .i64 t688, .int .i64 t689] 25 (0, 0)) (bp_ BK693).out hb); replace BK694 := Aside0.mk (blk_below (g := gb694) (o := .cells #[.int .i64 t690, .int .i64 t691, .int .i64 t692] 25 (0, 0)) (bp_ BK694).out hb); replace HB := bt_ HB hb; (try clear hb); obtain ⟨hcz100_0, hcz100_1, hcz100_2, hfz100_0, hfz100_1, hfz100_2⟩ := ch3_ BK693; obtain ⟨hcz101_0, hcz101_1, hcz101_2, hfz101_0, hfz101_1, hfz101_2⟩ := ch3_ BK694) | ((refine gc_ 52 ?_); refine ge_ 194 Try.func52 #[.int .i64 t686, .agg #[.int .i64 t687, .int .i64 t688, .int .i64 t689], .agg #[.int .i64 t690, .int .i64 t691, .int .i64 t692]] ?_; (with_reducible refine (spec_PlaceOfBall.calls kj62 t686 t687 t688 t689 t690 t691 t692 t697 t698 _ A75.out).mono ?_); rintro e w102 ⟨rfl, hb⟩; refine ⟨_, rfl, ?_⟩; replace BK654 := bb_ BK654 hb; replace BK659 := bb_ BK659 hb; replace BK664 := bb_ BK664 hb; replace BK693 := bb_ BK693 hb; replace BK694 := bb_ BK694 hb; replace HB := bt_ HB hb; (try clear hb)) | ((refine gc_ 53 ?_); refine ge_ 199 Try.func53 #[.slice A0 l0.length c0] ?_; (with_reducible refine (spec_DrawParentPlace.calls kj62 _ _ l0 t699 t700 _ ?side1 ?side2 A76.out).mono ?_); (case side1 => exact ca_ (Kd.C_below HR0.out HB.out)); (case side2 => exact HC0.out); rintro e w103 ⟨rfl, hb⟩; refine ⟨_, rfl, ?_⟩; replace BK654 := bb_ BK654 hb; replace BK659 := bb_ BK659 hb; replace BK664 := bb_ BK664 hb; replace BK693 := bb_ BK693 hb; replace BK694 := bb_ BK694 hb; replace HB := bt_ HB hb; (try clear hb)) | ((refine gc_ 46 ?_); refine ge_ 205 Try.func46 #[.int .i64 t699, .int .i64 t700] ?_; (with_reducible refine (impl_ParentPlace.calls t699 t700 t701 t702 _ A77.out).mono ?_); rintro e w' ⟨rfl, ⟨nd, rfl⟩⟩; refine ⟨_, rfl, ?_⟩) | ((refine gc_ 54 ?_); refine ge_ 211 Try.func54 #[.int .i64 t699, .int .i64 t700] ?_; (with_reducible refine (spec_ParentPlace.calls t699 t700 t703 t704 _ A78.out).mono ?_); rintro e w' ⟨rfl, ⟨nd, rfl⟩⟩; refine ⟨_, rfl, ?_⟩) | ((refine gc_ 55 ?_); refine ge_ 216 Try.func55 #[.slice A0 l0.length c0] ?_; (with_reducible refine (spec_DrawRegionSize.calls kj62 _ _ l0 t705 t706 _ ?side1 ?side2 A79.out).mono ?_); (case side1 => exact ca_ (Kd.C_below HR0.out (bw_ HB).out)); (case side2 => exact HC0.out); rintro e w104 ⟨rfl, hb⟩; refine ⟨_, rfl, ?_⟩; replace BK654 := bb_ BK654 hb; replace BK659 := bb_ BK659 hb; replace BK664 := bb_ BK664 hb; replace BK693 := bb_ BK693 hb; replace BK694 := bb_ BK694 hb; replace HB := bt_ HB hb; (try clear hb)) | ((refine gc_ 56 ?_); refine ge_ 222 Try.func56 #[.int .i64 t705, .int .i64 t706] ?_; (with_reducible refine (impl_RegionSize.calls kj62 t705 t706 t707 t708 _ A80.out).mono ?_); rintro e w' ⟨rfl, ⟨nd, rfl⟩⟩; refine ⟨_, rfl, ?_⟩) | ((refine gc_ 57 ?_); refine ge_ 228 Try.func57 #[.int .i64 t705, .int .i64 t706] ?_; (with_reducible refine (spec_RegionSize.calls kj62 t705 t706 t709 t710 _ A81.out).mono ?_); rintro e w' ⟨rfl, ⟨nd, rfl⟩⟩; refine ⟨_, rfl, ?_⟩))
         go_ret
         exact ⟨es_, (bw_ HB).out⟩

/-- THE ONE PURE STATEMENT of laws_FnPlaces: yours. -/
def laws_FnPlaces.Pure : Prop := ∀ (l0 : List Int), l0.length ≤ maxLen → l0.length * 1 ≤ 140737488351232 → (∀ x ∈ l0, (Lit.int .u8 x).wf = true) → ∃ k, laws_FnPlaces.f k l0 = some true
theorem laws_FnPlaces.walk (P : laws_FnPlaces.Pure) (a0 : Option Addr) (len0 cap0 : Nat) (z0 : List Int) (w : World) (w0 : (a0 = none ∧ len0 = 0 ∧ cap0 = 0 ∧ z0 = []) ∨ ∃ x, a0 = some x ∧ len0 ≤ cap0 ∧ cap0 ≤ maxLen ∧ z0.length = cap0 ∧ (∀ i, i < z0.length → w.cell? (x.add i) = some (.int .u8 (z0.getD i 0))) ∧ ∀ n ∈ z0, (Lit.int .u8 n).wf = true) (y0 : len0 * 1 ≤ 140737488351232) :
  Calls Try.prog 6 #[.slice a0 len0 cap0] w fun e w' => e = .returned (.bool true) ∧ Below w.heap.size w w' := by
 obtain ⟨l0, rfl, hr0, hm0, hw0, hc0⟩ := ReadsInt.ofRowC w0
 obtain ⟨k, h⟩ := P l0 hm0 y0 hw0
 refine (laws_FnPlaces.calls k _ _ l0 true w (Kd.C_of_reads (d := (0 : Int)) (h1 := fun _ => rfl) hr0) hc0 h).mono ?_
 rintro e w' ⟨rfl, hd⟩
 exact ⟨rfl, hd⟩
end Go.Proofs.Ytgoeelhiffbjlaa.QP
