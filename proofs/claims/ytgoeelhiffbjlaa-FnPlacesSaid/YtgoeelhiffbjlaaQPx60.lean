import Derived.Test.YtgoeelhiffbjlaaQPx9
import Derived.Test.YtgoeelhiffbjlaaQPx13
import Derived.Test.YtgoeelhiffbjlaaQPx20
import Derived.Test.YtgoeelhiffbjlaaQPx22
import Derived.Test.YtgoeelhiffbjlaaQPx25
import Derived.Test.YtgoeelhiffbjlaaQPx44
import Derived.Test.YtgoeelhiffbjlaaQPx49
namespace Go.Proofs.Ytgoeelhiffbjlaa.QP
open Go.RowKit Go.Proofs.YtgoeelhiffbjlaaW.PrintWords Go.Proofs.YtgoeelhiffbjlaaW.PrintLast Go.Proofs.YtgoeelhiffbjlaaW.PrintMore
attribute [local go_sem] isSome_setCell max2_int min2_int max_two min_two max_three min_three max_four min_four
set_option linter.unusedVariables false
set_option linter.unusedSimpArgs false

/-! ### spec_DrawPlaceOfBall: function 51 -/
def spec_DrawPlaceOfBall.j0 : Nat → Int → Bool → List Int → Int → Int → Int → Int → Int → Option (Int × Int × Int × Int × Int × Int × Int)
 | 0, _, _, _, _, _, _, _, _ => none
 | k + 1, x6, x24, x542000, x542001, x542002, x549000, x549001, x549002 => if x24 = true then ((spec_l01Next.f x542000 x542001 x542002 40).bind fun bt553 => ((spec_l07Ball.f k x6 x549000 x549001 x549002 bt553.1).bind fun bt556 => (if bt556.2.2.2 = true then (some (x6, x549000, x549001, x549002, bt556.1, bt556.2.1, bt556.2.2.1)) else ((spec_l01Draw.f k x542000 bt553.2.1 bt553.2.2 (mn (mx x6 2) 3)).bind fun bt561 => (some (x6, x549000, x549001, x549002, bt561.1, bt561.2.1, bt561.2.2.1)))))) else ((spec_l01Draw.f k x542000 x542001 x542002 (mn (mx x6 2) 3)).bind fun bt566 => (some (x6, x549000, x549001, x549002, bt566.1, bt566.2.1, bt566.2.2.1)))
def spec_DrawPlaceOfBall.f (k : Nat) (l0 : List Int) : Option (Int × Int × Int × Int × Int × Int × Int) := (spec_l01From.f k l0).bind fun bt538 => ((spec_l01Spoil.f k bt538.1 bt538.2.1 bt538.2.2).bind fun bt542 => ((spec_l01Is.f k bt542.1 bt542.2.1 bt542.2.2.1 bt542.2.2.2.1).bind fun t549 => (if t549 = true then ((spec_l01Next.f bt538.1 bt542.2.2.2.2.1 bt542.2.2.2.2.2 4).bind fun bt550 => (spec_DrawPlaceOfBall.j0 k bt542.1 (decide (bt550.1 > 0)) bt538.1 bt550.2.1 bt550.2.2 bt542.2.1 bt542.2.2.1 bt542.2.2.2.1)) else (spec_DrawPlaceOfBall.j0 k bt542.1 false bt538.1 bt542.2.2.2.2.1 bt542.2.2.2.2.2 bt542.2.1 bt542.2.2.1 bt542.2.2.2.1))))
def spec_DrawPlaceOfBall.T4 : Bool × List (List Nat × List Nat) := (true, [([], []), ([], []), ([], []), ([2], [2]), ([0, 1, 3, 3], [0, 1, 3]), ([4], [4]), ([5], [5]), ([5], [5]), ([], []), ([8, 6, 4, 0, 1, 2, 3, 4, 5, 6, 8], [6, 8]), ([7, 9, 0, 1, 2, 3, 4, 5, 6, 7, 8, 9], [7])])
def spec_DrawPlaceOfBall.B4 : List Nat := [0, 0, 0, 4, 15, 31, 63, 63, 0, 383, 1023]
theorem spec_DrawPlaceOfBall.tab4 : rtab .any (opsOf Try.f51 4) = spec_DrawPlaceOfBall.T4 := by kernel_rfl
theorem spec_DrawPlaceOfBall.bits4 : waitsOk spec_DrawPlaceOfBall.T4.2 spec_DrawPlaceOfBall.B4 = true := by kernel_rfl
def spec_DrawPlaceOfBall.T7 : Bool × List (List Nat × List Nat) := (true, [([], []), ([], []), ([], []), ([], []), ([3], [3]), ([4], [4]), ([2, 5], [2, 5]), ([0, 6, 0], [0]), ([1, 7, 0, 1, 7], [1]), ([6, 8, 0, 1, 2, 3, 4, 5, 6, 7, 8], [6])])
def spec_DrawPlaceOfBall.B7 : List Nat := [0, 0, 0, 0, 8, 24, 60, 125, 255, 511]
theorem spec_DrawPlaceOfBall.tab7 : rtab .any (opsOf Try.f51 7) = spec_DrawPlaceOfBall.T7 := by kernel_rfl
theorem spec_DrawPlaceOfBall.bits7 : waitsOk spec_DrawPlaceOfBall.T7.2 spec_DrawPlaceOfBall.B7 = true := by kernel_rfl
set_option maxHeartbeats 8000000 in
set_option maxRecDepth 100000 in
theorem spec_DrawPlaceOfBall.calls (k : Nat) (A0 : Option Addr) (c0 : Nat) (l0 : List Int) (r1 r2 r3 r4 r5 r6 r7 : Int) (w : World) (hr0 : Kd.C (Kd.int .u8) w A0 l0.length l0) (hc0 : l0.length ≤ c0) (h : spec_DrawPlaceOfBall.f k l0 = some (r1, r2, r3, r4, r5, r6, r7)) :
  Calls Try.prog 51 #[.slice A0 l0.length c0] w fun e w' => e = .returned (.tuple #[.int .i64 r1, .agg #[.int .i64 r2, .int .i64 r3, .int .i64 r4], .agg #[.int .i64 r5, .int .i64 r6, .int .i64 r7]]) ∧ Below w.heap.size w w' := by
 have hu25 := Try.underlying25
 have HR0 := Aside0.mk hr0
 have HC0 := Aside0.mk hc0
 clear hr0 hc0
 have HB := Aside0.mk (Below.refl w.heap.size w)
 unfold spec_DrawPlaceOfBall.f at h
 have H := h
 clear h
 replace H := oc_ H
 obtain ⟨⟨t538, t539, t540⟩, A2, H⟩ := H
 replace H := oc_ H
 obtain ⟨⟨t542, t543, t544, t545, t546, t547⟩, A3, H⟩ := H
 have HC4 := Aside0.mk H
 clear H
 go_enter Try.func51, Try.ntmps51
 go_upto_region 3 with (first | ((refine gd_ 3 ?_); refine by_ 3 #[.int .i64 0, .int .i64 0, .int .i64 0] 25 HB ?_; intro gb536 hg w5 BK536 hb GW536 HB_; replace HB := HB_; clear hb hg) | ((refine gd_ 4 ?_); refine by_ 4 #[.int .i64 0, .int .i64 0, .int .i64 0] 25 HB ?_; intro gb537 hg w6 BK537 hb GW537 HB_; have NB536_537 := bm_ BK536 hg; have NB537_536 := bn_ BK536 hg; replace BK536 := bb_ BK536 hb; replace HB := HB_; clear hb hg) | ((refine gc_ 73 ?_); refine ge_ 11 Try.func73 #[.slice A0 l0.length c0] ?_; (with_reducible refine (spec_l01From.calls k _ _ l0 t538 t539 t540 w _ ?side1 ?side2 ?side3 A2.out).mono ?_); (case side1 => repeat (first | (with_reducible first | exact HB.out | apply below_alloc | apply pw_below_drewN | apply below_drew1 | refine below_set ?_ GW536.out | refine below_set ?_ GW537.out) | exact HB.out)); (case side2 => exact HR0.out); (case side3 => exact HC0.out); rintro e w7 ⟨g541, rfl, hi, hb, hb2⟩; refine ⟨_, rfl, ?_⟩; have HI541 := Aside0.mk (hi); have NB541_536 := Aside0.mk (IsS164.ne_blk hi (blk_below (g := gb536) (o := .cells #[.int .i64 0, .int .i64 0, .int .i64 0] 25 (0, 0)) (bl_ BK536).out hb2) (by decide)); have NB536_541 := Aside0.mk (Ne.symm (IsS164.ne_blk hi (blk_below (g := gb536) (o := .cells #[.int .i64 0, .int .i64 0, .int .i64 0] 25 (0, 0)) (bl_ BK536).out hb2) (by decide))); have NB541_537 := Aside0.mk (IsS164.ne_blk hi (blk_below (g := gb537) (o := .cells #[.int .i64 0, .int .i64 0, .int .i64 0] 25 (0, 0)) (bl_ BK537).out hb2) (by decide)); have NB537_541 := Aside0.mk (Ne.symm (IsS164.ne_blk hi (blk_below (g := gb537) (o := .cells #[.int .i64 0, .int .i64 0, .int .i64 0] 25 (0, 0)) (bl_ BK537).out hb2) (by decide))); replace BK536 := Aside0.mk (blk_below (g := gb536) (o := .cells #[.int .i64 0, .int .i64 0, .int .i64 0] 25 (0, 0)) (bl_ BK536).out hb2); replace BK537 := Aside0.mk (blk_below (g := gb537) (o := .cells #[.int .i64 0, .int .i64 0, .int .i64 0] 25 (0, 0)) (bl_ BK537).out hb2); replace HB := Aside0.mk (hb); (try clear hb); (try clear hb2); (try clear hi)) | ((refine gc_ 74 ?_); refine ge_ 14 Try.func74 #[.pointer (some ⟨g541, 0, none⟩)] ?_; (with_reducible refine (spec_l01Spoil.calls k g541 t538 t539 t540 t542 t543 t544 t545 t546 t547 w _ ?side1 ?side2 A3.out).mono ?_); (case side1 => repeat (first | (with_reducible first | exact HI541.out | apply IsS164.alloc | apply IsS164.drewN | apply IsS164.drew | apply IsS164.set_1 | apply IsS164.set_2 | refine IsS164.far ?_ NB541_536.out _ | refine IsS164.far ?_ NB541_537.out _) | exact HI541.out)); (case side2 => repeat (first | (with_reducible first | exact HB.out | apply below_alloc | apply pw_below_drewN | apply below_drew1 | refine below_set ?_ (IsS164.ge HI541.out) | refine below_set ?_ GW536.out | refine below_set ?_ GW537.out) | exact HB.out)); rintro e w8 ⟨rfl, hi, hb, hk⟩; refine ⟨_, rfl, ?_⟩; replace BK536 := Aside0.mk (KeepBut.blk hk (g' := gb536) (o := .cells #[.int .i64 0, .int .i64 0, .int .i64 0] 25 (0, 0)) (bl_ BK536).out NB536_541.out (by simp)); replace BK537 := Aside0.mk (KeepBut.blk hk (g' := gb537) (o := .cells #[.int .i64 0, .int .i64 0, .int .i64 0] 25 (0, 0)) (bl_ BK537).out NB537_541.out (by simp)); replace HB := Aside0.mk (hb); replace HI541 := Aside0.mk (hi); (try clear hb); (try clear hk); (try clear hi)) | ((refine gd_ 7 ?_); refine bx_ 7 #[.int .i64 0, .int .i64 0, .int .i64 0] 25 ?_; intro gb548 hg w9 BK548 hb; have GW548 := Aside0.mk ((by rw [hg]; exact (below_size (by repeat (first | (with_reducible first | exact HB.out | apply below_alloc | apply pw_below_drewN | apply below_drew1 | refine below_set ?_ (IsS164.ge HI541.out) | refine below_set ?_ GW536.out | refine below_set ?_ GW537.out) | exact HB.out))) : w.heap.size ≤ gb548)); have GE548 := Aside0.mk ((by rw [hg]; exact (below_size (by repeat (first | (with_reducible first | exact HB.out | apply below_alloc | apply pw_below_drewN | apply below_drew1 | refine below_set ?_ (IsS164.ge HI541.out) | refine below_set ?_ GW536.out | refine below_set ?_ GW537.out) | exact HB.out))) : w.heap.size ≤ gb548)); have NB536_548 := bm_ BK536 hg; have NB548_536 := bn_ BK536 hg; have NB537_548 := bm_ BK537 hg; have NB548_537 := bn_ BK537 hg; have NB541_548 := Aside0.mk ((by rw [hg]; exact Nat.ne_of_lt (IsS164.lt (show IsS164 w _ g541 t538 t546 t547 from by repeat (first | (with_reducible first | exact HI541.out | apply IsS164.alloc | apply IsS164.drewN | apply IsS164.drew | apply IsS164.set_1 | apply IsS164.set_2 | refine IsS164.far ?_ NB541_536.out _ | refine IsS164.far ?_ NB541_537.out _) | exact HI541.out))) : g541 ≠ gb548)); have NB548_541 := Aside0.mk ((by rw [hg]; exact Nat.ne_of_gt (IsS164.lt (show IsS164 w _ g541 t538 t546 t547 from by repeat (first | (with_reducible first | exact HI541.out | apply IsS164.alloc | apply IsS164.drewN | apply IsS164.drew | apply IsS164.set_1 | apply IsS164.set_2 | refine IsS164.far ?_ NB541_536.out _ | refine IsS164.far ?_ NB541_537.out _) | exact HI541.out))) : gb548 ≠ g541)); replace BK536 := bb_ BK536 hb; replace BK537 := bb_ BK537 hb; replace HB := Aside0.mk (below_step (by repeat (first | (with_reducible first | exact HB.out | apply below_alloc | apply pw_below_drewN | apply below_drew1 | refine below_set ?_ (IsS164.ge HI541.out) | refine below_set ?_ GW536.out | refine below_set ?_ GW537.out) | exact HB.out)) hb); replace HI541 := Aside0.mk (IsS164.below (by repeat (first | (with_reducible first | exact HI541.out | apply IsS164.alloc | apply IsS164.drewN | apply IsS164.drew | apply IsS164.set_1 | apply IsS164.set_2 | refine IsS164.far ?_ NB541_536.out _ | refine IsS164.far ?_ NB541_537.out _) | exact HI541.out)) hb); clear hb hg; have hnb10 := NB548_536.out; have hnc10 := NB536_548.out; have hnb11 := NB548_537.out; have hnc11 := NB537_548.out; have hnb12 := NB548_541.out; have hnc12 := NB541_548.out; obtain ⟨hcz13_0, hcz13_1, hcz13_2, hfz13_0, hfz13_1, hfz13_2⟩ := ch3_ BK548))
 (try simp only [Act.put, lstS, lstZ, lstC])
 go_cut [24] (fun v24 wc => ∃ (kq : Nat) (x24_3 : Bool) (x542001_3 : Int) (x542002_3 : Int), v24 = .bool x24_3 ∧ Aside0 (spec_DrawPlaceOfBall.j0 kq t542 x24_3 t538 x542001_3 x542002_3 t543 t544 t545 = some (r1, r2, r3, r4, r5, r6, r7)) ∧ Aside0 (kq ≤ k) ∧ Aside0 (wc.heap[gb536]? = some (.cells #[.int .i64 0, .int .i64 0, .int .i64 0] 25 (0, 0))) ∧ Aside0 (wc.heap[gb537]? = some (.cells #[.int .i64 0, .int .i64 0, .int .i64 0] 25 (0, 0))) ∧ Aside0 (wc.heap[gb548]? = some (.cells #[.int .i64 t543, .int .i64 t544, .int .i64 t545] 25 (0, 0))) ∧ Aside0 (IsS164 w wc g541 t538 x542001_3 x542002_3) ∧ Aside0 (Below w.heap.size w wc))
 case first =>
  have H := HC4.out
  clear HC4
  replace H := oc_ H
  obtain ⟨t549, A14, H⟩ := H
  replace H := ib_ H
  rcases H with ⟨rfl, H⟩ | ⟨rfl, H⟩
  ·replace H := oc_ H
   obtain ⟨⟨t550, t551, t552⟩, A16, H⟩ := H
   have H' := Aside0.mk H
   clear H
   have hnb17 := NB548_536.out
   have hnc17 := NB536_548.out
   have hnb18 := NB548_537.out
   have hnc18 := NB537_548.out
   have hnb19 := NB548_541.out
   have hnc19 := NB541_548.out
   obtain ⟨hcz20_0, hcz20_1, hcz20_2, hfz20_0, hfz20_1, hfz20_2⟩ := ch3_ BK548
   go_wp2_with (first | ((refine gc_ 123 ?_); refine ge_ 19 Try.func123 #[.int .i64 t542, .agg #[.int .i64 t543, .int .i64 t544, .int .i64 t545]] ?_; (with_reducible refine (spec_l01Is.calls k t542 t543 t544 t545 true _ A14.out).mono ?_); rintro e w21 ⟨rfl, hb⟩; refine ⟨_, rfl, ?_⟩; replace BK536 := fb_ BK536 NB536_548 hb; replace BK537 := fb_ BK537 NB537_548 hb; replace BK548 := Aside0.mk (blk_below (g := gb548) (o := .cells #[.int .i64 t543, .int .i64 t544, .int .i64 t545] 25 (0, 0)) (bp_ BK548).out hb); replace HB := Aside0.mk (below_step (by repeat (first | (with_reducible first | exact HB.out | apply below_alloc | apply pw_below_drewN | apply below_drew1 | refine below_set ?_ (IsS164.ge HI541.out) | refine below_set ?_ GW536.out | refine below_set ?_ GW537.out | refine below_set ?_ GE548.out) | exact HB.out)) hb); replace HI541 := Aside0.mk (IsS164.below (show IsS164 w (((w9.setCell ⟨gb548, 0, none⟩ (.int .i64 t543)).setCell ⟨gb548, 1, none⟩ (.int .i64 t544)).setCell ⟨gb548, 2, none⟩ (.int .i64 t545)) g541 t538 t546 t547 from by repeat (first | (with_reducible first | exact HI541.out | apply IsS164.alloc | apply IsS164.drewN | apply IsS164.drew | apply IsS164.set_1 | apply IsS164.set_2 | refine IsS164.far ?_ NB541_536.out _ | refine IsS164.far ?_ NB541_537.out _ | refine IsS164.far ?_ NB541_548.out _) | exact HI541.out)) hb); (try clear hb)) | (go_at_call 108; (with_reducible refine (spec_l01Next.calls g541 t538 t546 t547 4 t550 t551 t552 w _ ?side1 ?side2 A16.out).mono ?_); (case side1 => repeat (first | (with_reducible first | exact HI541.out | apply IsS164.alloc | apply IsS164.drewN | apply IsS164.drew | apply IsS164.set_1 | apply IsS164.set_2 | refine IsS164.far ?_ NB541_536.out _ | refine IsS164.far ?_ NB541_537.out _ | refine IsS164.far ?_ NB541_548.out _) | exact HI541.out)); (case side2 => repeat (first | (with_reducible first | exact HB.out | apply below_alloc | apply pw_below_drewN | apply below_drew1 | refine below_set ?_ (IsS164.ge HI541.out) | refine below_set ?_ GW536.out | refine below_set ?_ GW537.out | refine below_set ?_ GE548.out) | exact HB.out)); rintro e w22 ⟨rfl, hi, hb, hk⟩; replace BK536 := Aside0.mk (KeepBut.blk hk (g' := gb536) (o := .cells #[.int .i64 0, .int .i64 0, .int .i64 0] 25 (0, 0)) (bl_ BK536).out NB536_541.out (by simp)); replace BK537 := Aside0.mk (KeepBut.blk hk (g' := gb537) (o := .cells #[.int .i64 0, .int .i64 0, .int .i64 0] 25 (0, 0)) (bl_ BK537).out NB537_541.out (by simp)); replace BK548 := Aside0.mk (KeepBut.blk hk (g' := gb548) (o := .cells #[.int .i64 t543, .int .i64 t544, .int .i64 t545] 25 (0, 0)) (bl_ BK548).out NB548_541.out (by simp)); replace HB := Aside0.mk (hb); replace HI541 := Aside0.mk (hi); (try clear hb); (try clear hk); (try clear hi)))
   go_meet
   case rel => exact ⟨_, (decide (t550 > 0)), (t551), (t552), en_, H', ⟨by first | omega | exact Nat.le_refl _⟩, bl_ BK536, bl_ BK537, bl_ BK548, ⟨by repeat (first | (with_reducible first | exact HI541.out | apply IsS164.alloc | apply IsS164.drewN | apply IsS164.drew | apply IsS164.set_1 | apply IsS164.set_2 | refine IsS164.far ?_ NB541_536.out _ | refine IsS164.far ?_ NB541_537.out _ | refine IsS164.far ?_ NB541_548.out _) | exact HI541.out)⟩, ⟨by repeat (first | (with_reducible first | exact HB.out | apply below_alloc | apply pw_below_drewN | apply below_drew1 | refine below_set ?_ (IsS164.ge HI541.out) | refine below_set ?_ GW536.out | refine below_set ?_ GW537.out | refine below_set ?_ GE548.out) | exact HB.out)⟩⟩
  have H' := Aside0.mk H
  clear H
  have hnb23 := NB548_536.out
  have hnc23 := NB536_548.out
  have hnb24 := NB548_537.out
  have hnc24 := NB537_548.out
  have hnb25 := NB548_541.out
  have hnc25 := NB541_548.out
  obtain ⟨hcz26_0, hcz26_1, hcz26_2, hfz26_0, hfz26_1, hfz26_2⟩ := ch3_ BK548
  go_wp2_with (first | ((refine gc_ 123 ?_); refine ge_ 19 Try.func123 #[.int .i64 t542, .agg #[.int .i64 t543, .int .i64 t544, .int .i64 t545]] ?_; (with_reducible refine (spec_l01Is.calls k t542 t543 t544 t545 false _ A14.out).mono ?_); rintro e w27 ⟨rfl, hb⟩; refine ⟨_, rfl, ?_⟩; replace BK536 := fb_ BK536 NB536_548 hb; replace BK537 := fb_ BK537 NB537_548 hb; replace BK548 := Aside0.mk (blk_below (g := gb548) (o := .cells #[.int .i64 t543, .int .i64 t544, .int .i64 t545] 25 (0, 0)) (bp_ BK548).out hb); replace HB := Aside0.mk (below_step (by repeat (first | (with_reducible first | exact HB.out | apply below_alloc | apply pw_below_drewN | apply below_drew1 | refine below_set ?_ (IsS164.ge HI541.out) | refine below_set ?_ GW536.out | refine below_set ?_ GW537.out | refine below_set ?_ GE548.out) | exact HB.out)) hb); replace HI541 := Aside0.mk (IsS164.below (show IsS164 w (((w9.setCell ⟨gb548, 0, none⟩ (.int .i64 t543)).setCell ⟨gb548, 1, none⟩ (.int .i64 t544)).setCell ⟨gb548, 2, none⟩ (.int .i64 t545)) g541 t538 t546 t547 from by repeat (first | (with_reducible first | exact HI541.out | apply IsS164.alloc | apply IsS164.drewN | apply IsS164.drew | apply IsS164.set_1 | apply IsS164.set_2 | refine IsS164.far ?_ NB541_536.out _ | refine IsS164.far ?_ NB541_537.out _ | refine IsS164.far ?_ NB541_548.out _) | exact HI541.out)) hb); (try clear hb)))
  go_meet
  case rel => exact ⟨_, (false), (t546), (t547), en_, H', ⟨by first | omega | exact Nat.le_refl _⟩, bl_ BK536, bl_ BK537, bl_ BK548, ⟨by repeat (first | (with_reducible first | exact HI541.out | apply IsS164.alloc | apply IsS164.drewN | apply IsS164.drew | apply IsS164.set_1 | apply IsS164.set_2 | refine IsS164.far ?_ NB541_536.out _ | refine IsS164.far ?_ NB541_537.out _ | refine IsS164.far ?_ NB541_548.out _) | exact HI541.out)⟩, ⟨by repeat (first | (with_reducible first | exact HB.out | apply below_alloc | apply pw_below_drewN | apply below_drew1 | refine below_set ?_ (IsS164.ge HI541.out) | refine below_set ?_ GW536.out | refine below_set ?_ GW537.out | refine below_set ?_ GE548.out) | exact HB.out)⟩⟩
 clear HC4
 try clear hcz13_0 hcz13_1 hcz13_2
 try clear hcz20_0 hcz20_1 hcz20_2
 try clear hcz26_0 hcz26_1 hcz26_2
 try clear hfz13_0 hfz13_1 hfz13_2
 try clear hfz20_0 hfz20_1 hfz20_2
 try clear hfz26_0 hfz26_1 hfz26_2
 obtain ⟨kq, x24_3, x542001_3, x542002_3, rfl, HA, HJ3, BK536, BK537, BK548, HI541, HB⟩ := hcut
 cases kq with
 | zero => exact absurd HA.out (by simp [spec_DrawPlaceOfBall.j0])
 | succ kj3 =>
  have H := HA.out
  clear HA
  simp only [spec_DrawPlaceOfBall.j0] at H
  replace H := ib_ H
  rcases H with ⟨rfl, H⟩ | ⟨rfl, H⟩
  ·replace H := oc_ H
   obtain ⟨⟨t553, t554, t555⟩, A29, H⟩ := H
   replace H := oc_ H
   obtain ⟨⟨t556, t557, t558, t559⟩, A30, H⟩ := H
   replace H := ib_ H
   rcases H with ⟨rfl, H⟩ | ⟨rfl, H⟩
   ·simp only [Option.some.injEq, Prod.mk.injEq] at H
    obtain ⟨rfl, rfl, rfl, rfl, rfl, rfl, rfl⟩ := H
    try go_wp2
    replace BK536 := bd_ BK536
    replace BK537 := bd_ BK537
    replace BK548 := bd_ BK548
    replace HI541 := Aside0.mk (IsS164.drew HI541.out)
    replace HB := be_ HB
    refine start_ (n := 11) (S := fun w' => w'.cell? ⟨gb548, 0, none⟩ = some (.int .i64 t543) ∧ w'.cell? ⟨gb548, 1, none⟩ = some (.int .i64 t544) ∧ w'.cell? ⟨gb548, 2, none⟩ = some (.int .i64 t545)) (ds := []) (bv_ 11 0) (by kernel_rfl) rfl rfl ⟨cz_ BK548 0, cz_ BK548 1, cz_ BK548 2⟩ (fun hHeld => ?_); refine with_tabW spec_DrawPlaceOfBall.tab4 spec_DrawPlaceOfBall.bits4 (fun HT_ HW_ => ?_)
    generalize wc.drew = w32 at BK536 BK537 BK548 HI541 HB hHeld ⊢
    refine px_ HT_ 0 26 1 ?_
    refine px_ HT_ 2 28 5 ?_
    refine ta_ HT_ HW_ 1 (some 27) (bv_ 11 7) hHeld ?_ (hy := by rintro w' ⟨s0, s1, s2⟩; go_simp; with_reducible rfl)
    refine join_ (σ := Nat) 2 (bv_ 11 511) (fun s_ => [(29, .int .i64 t553), (30, .tuple #[.agg #[.int .i64 t556, .int .i64 t557, .int .i64 t558], .bool true]), (8, .pointer (some ⟨s_, 0, none⟩)), (25, .tuple #[.agg #[.int .i64 t556, .int .i64 t557, .int .i64 t558], .bool true]), (31, .agg #[.int .i64 t556, .int .i64 t557, .int .i64 t558]), (32, .bool true)]) (fun s_ w' => (w'.cell? ⟨gb548, 0, none⟩ = some (.int .i64 t543) ∧ w'.cell? ⟨gb548, 1, none⟩ = some (.int .i64 t544) ∧ w'.cell? ⟨gb548, 2, none⟩ = some (.int .i64 t545)) ∧ (w'.heap[gb536]? = some (.cells #[.int .i64 0, .int .i64 0, .int .i64 0] 25 (0, 0))) ∧ (w'.heap[gb537]? = some (.cells #[.int .i64 0, .int .i64 0, .int .i64 0] 25 (0, 0))) ∧ (w'.heap[gb548]? = some (.cells #[.int .i64 t543, .int .i64 t544, .int .i64 t545] 25 (0, 0))) ∧ (w'.heap[s_]? = some (.cells #[.int .i64 0, .int .i64 0, .int .i64 0] 25 (0, 0))) ∧ (w.heap.size ≤ s_) ∧ (w.heap.size ≤ s_) ∧ (g541 ≠ s_) ∧ (s_ ≠ g541) ∧ (gb536 ≠ s_) ∧ (s_ ≠ gb536) ∧ (gb537 ≠ s_) ∧ (s_ ≠ gb537) ∧ (gb548 ≠ s_) ∧ (s_ ≠ gb548) ∧ (IsS164 w w' g541 t538 t554 t555) ∧ (Below w.heap.size w w')) ?_ ?_
    rotate_left
    ·intro hCont
     refine tw_ HT_ 3 8 (some 29) (some 8) (bv_ 11 15) (bv_ 11 263) (fun K hK => ?_) (fun K hK => ?_)
     ·skip
      refine gs_ Try.func108 #[.pointer (some ⟨g541, 0, none⟩), .int .i64 40] ?_
      with_reducible refine (spec_l01Next.calls g541 t538 x542001_3 x542002_3 40 t553 t554 t555 w _ ?side1 ?side2 A29.out).mono ?_
      (case side1 => repeat (first | (with_reducible first | exact HI541.out | apply IsS164.alloc | apply IsS164.drewN | apply IsS164.drew | apply IsS164.set_1 | apply IsS164.set_2 | refine IsS164.far ?_ NB541_536.out _ | refine IsS164.far ?_ NB541_537.out _ | refine IsS164.far ?_ NB541_548.out _) | exact HI541.out))
      (case side2 => repeat (first | (with_reducible first | exact HB.out | apply below_alloc | apply pw_below_drewN | apply below_drew1 | refine below_set ?_ (IsS164.ge HI541.out) | refine below_set ?_ GW536.out | refine below_set ?_ GW537.out | refine below_set ?_ GE548.out) | exact HB.out))
      rintro e w33 ⟨rfl, hi, hb, hk⟩
      refine ⟨_, rfl, ?_⟩
      replace BK536 := Aside0.mk (KeepBut.blk hk (g' := gb536) (o := .cells #[.int .i64 0, .int .i64 0, .int .i64 0] 25 (0, 0)) (bl_ BK536).out NB536_541.out (by simp))
      replace BK537 := Aside0.mk (KeepBut.blk hk (g' := gb537) (o := .cells #[.int .i64 0, .int .i64 0, .int .i64 0] 25 (0, 0)) (bl_ BK537).out NB537_541.out (by simp))
      replace BK548 := Aside0.mk (KeepBut.blk hk (g' := gb548) (o := .cells #[.int .i64 t543, .int .i64 t544, .int .i64 t545] 25 (0, 0)) (bl_ BK548).out NB548_541.out (by simp))
      replace HB := Aside0.mk (hb)
      replace HI541 := Aside0.mk (hi)
      try clear hb
      try clear hk
      try clear hi
      refine hK.out _ _ ⟨cz_ BK548 0, cz_ BK548 1, cz_ BK548 2⟩ (fun hHeld => ?_)
      clear hK K
      refine nm_ (some 29) ?_
      refine tw_ HT_ 4 8 (some 30) (some 8) (bv_ 11 31) (bv_ 11 271) (fun K hK => ?_) (fun K hK => ?_)
      ·skip
       refine gs_ Try.func114 #[.int .i64 t542, .agg #[.int .i64 t543, .int .i64 t544, .int .i64 t545], .int .i64 t553] ?_
       with_reducible refine (spec_l07Ball.calls kj3 t542 t543 t544 t545 t553 t556 t557 t558 true _ A30.out).mono ?_
       rintro e w34 ⟨rfl, hb⟩
       refine ⟨_, rfl, ?_⟩
       replace BK536 := bb_ BK536 hb
       replace BK537 := bb_ BK537 hb
       replace BK548 := bb_ BK548 hb
       replace HB := Aside0.mk (below_step (by repeat (first | (with_reducible first | exact HB.out | apply below_alloc | apply pw_below_drewN | apply below_drew1 | refine below_set ?_ (IsS164.ge HI541.out) | refine below_set ?_ GW536.out | refine below_set ?_ GW537.out | refine below_set ?_ GE548.out) | exact HB.out)) hb)
       replace HI541 := Aside0.mk (IsS164.below (by repeat (first | (with_reducible first | exact HI541.out | apply IsS164.alloc | apply IsS164.drewN | apply IsS164.drew | apply IsS164.set_1 | apply IsS164.set_2 | refine IsS164.far ?_ NB541_536.out _ | refine IsS164.far ?_ NB541_537.out _ | refine IsS164.far ?_ NB541_548.out _) | exact HI541.out)) hb)
       try clear hb
       refine hK.out _ _ ⟨cz_ BK548 0, cz_ BK548 1, cz_ BK548 2⟩ (fun hHeld => ?_)
       clear hK K
       refine nm_ (some 30) ?_
       refine px_ HT_ 5 25 63 ?_
       refine px_ HT_ 6 31 127 ?_
       refine px_ HT_ 7 32 255 ?_
       refine on_ HT_ 8 (some 8) (bv_ 11 511) (fun K hK => ?_)
       refine bz_ 8 #[.int .i64 0, .int .i64 0, .int .i64 0] 25 ?_
       intro gb560 hg w35 BK560 hb
       have GW560 := Aside0.mk ((by rw [hg]; exact (below_size (by repeat (first | (with_reducible first | exact HB.out | apply below_alloc | apply pw_below_drewN | apply below_drew1 | refine below_set ?_ (IsS164.ge HI541.out) | refine below_set ?_ GW536.out | refine below_set ?_ GW537.out | refine below_set ?_ GE548.out) | exact HB.out))) : w.heap.size ≤ gb560))
       have GE560 := Aside0.mk ((by rw [hg]; exact (below_size (by repeat (first | (with_reducible first | exact HB.out | apply below_alloc | apply pw_below_drewN | apply below_drew1 | refine below_set ?_ (IsS164.ge HI541.out) | refine below_set ?_ GW536.out | refine below_set ?_ GW537.out | refine below_set ?_ GE548.out) | exact HB.out))) : w.heap.size ≤ gb560))
       have NB536_560 := bm_ BK536 hg
       have NB560_536 := bn_ BK536 hg
       have NB537_560 := bm_ BK537 hg
       have NB560_537 := bn_ BK537 hg
       have NB548_560 := bm_ BK548 hg
       have NB560_548 := bn_ BK548 hg
       have NB541_560 := Aside0.mk ((by rw [hg]; exact Nat.ne_of_lt (IsS164.lt (show IsS164 w _ g541 t538 t554 t555 from by repeat (first | (with_reducible first | exact HI541.out | apply IsS164.alloc | apply IsS164.drewN | apply IsS164.drew | apply IsS164.set_1 | apply IsS164.set_2 | refine IsS164.far ?_ NB541_536.out _ | refine IsS164.far ?_ NB541_537.out _ | refine IsS164.far ?_ NB541_548.out _) | exact HI541.out))) : g541 ≠ gb560))
       have NB560_541 := Aside0.mk ((by rw [hg]; exact Nat.ne_of_gt (IsS164.lt (show IsS164 w _ g541 t538 t554 t555 from by repeat (first | (with_reducible first | exact HI541.out | apply IsS164.alloc | apply IsS164.drewN | apply IsS164.drew | apply IsS164.set_1 | apply IsS164.set_2 | refine IsS164.far ?_ NB541_536.out _ | refine IsS164.far ?_ NB541_537.out _ | refine IsS164.far ?_ NB541_548.out _) | exact HI541.out))) : gb560 ≠ g541))
       replace BK536 := bb_ BK536 hb
       replace BK537 := bb_ BK537 hb
       replace BK548 := bb_ BK548 hb
       replace HB := Aside0.mk (below_step (by repeat (first | (with_reducible first | exact HB.out | apply below_alloc | apply pw_below_drewN | apply below_drew1 | refine below_set ?_ (IsS164.ge HI541.out) | refine below_set ?_ GW536.out | refine below_set ?_ GW537.out | refine below_set ?_ GE548.out) | exact HB.out)) hb)
       replace HI541 := Aside0.mk (IsS164.below (by repeat (first | (with_reducible first | exact HI541.out | apply IsS164.alloc | apply IsS164.drewN | apply IsS164.drew | apply IsS164.set_1 | apply IsS164.set_2 | refine IsS164.far ?_ NB541_536.out _ | refine IsS164.far ?_ NB541_537.out _ | refine IsS164.far ?_ NB541_548.out _) | exact HI541.out)) hb)
       clear hb hg
       refine hK.out _ _ ⟨cz_ BK548 0, cz_ BK548 1, cz_ BK548 2⟩ (fun hHeld => ?_)
       clear hK K
       refine nm_ (some 8) ?_
       exact norm_ (by simp only [putAll, Act.put, lstS, lstZ, lstC]) (hCont (gb560) _ ⟨hHeld, (bl_ BK536).out, (bl_ BK537).out, (bl_ BK548).out, (bl_ BK560).out, GW560.out, GE560.out, NB541_560.out, NB560_541.out, NB536_560.out, NB560_536.out, NB537_560.out, NB560_537.out, NB548_560.out, NB560_548.out, (by repeat (first | (with_reducible first | exact HI541.out | apply IsS164.alloc | apply IsS164.drewN | apply IsS164.drew | apply IsS164.set_1 | apply IsS164.set_2 | refine IsS164.far ?_ NB541_536.out _ | refine IsS164.far ?_ NB541_537.out _ | refine IsS164.far ?_ NB541_548.out _ | refine IsS164.far ?_ NB541_560.out _) | exact HI541.out)), (by repeat (first | (with_reducible first | exact HB.out | apply below_alloc | apply pw_below_drewN | apply below_drew1 | refine below_set ?_ (IsS164.ge HI541.out) | refine below_set ?_ GW536.out | refine below_set ?_ GW537.out | refine below_set ?_ GE548.out | refine below_set ?_ GE560.out) | exact HB.out))⟩)
      skip
      refine bz_ 8 #[.int .i64 0, .int .i64 0, .int .i64 0] 25 ?_
      intro gb560 hg w34 BK560 hb
      have GW560 := Aside0.mk ((by rw [hg]; exact (below_size (by repeat (first | (with_reducible first | exact HB.out | apply below_alloc | apply pw_below_drewN | apply below_drew1 | refine below_set ?_ (IsS164.ge HI541.out) | refine below_set ?_ GW536.out | refine below_set ?_ GW537.out | refine below_set ?_ GE548.out) | exact HB.out))) : w.heap.size ≤ gb560))
      have GE560 := Aside0.mk ((by rw [hg]; exact (below_size (by repeat (first | (with_reducible first | exact HB.out | apply below_alloc | apply pw_below_drewN | apply below_drew1 | refine below_set ?_ (IsS164.ge HI541.out) | refine below_set ?_ GW536.out | refine below_set ?_ GW537.out | refine below_set ?_ GE548.out) | exact HB.out))) : w.heap.size ≤ gb560))
      have NB536_560 := bm_ BK536 hg
      have NB560_536 := bn_ BK536 hg
      have NB537_560 := bm_ BK537 hg
      have NB560_537 := bn_ BK537 hg
      have NB548_560 := bm_ BK548 hg
      have NB560_548 := bn_ BK548 hg
      have NB541_560 := Aside0.mk ((by rw [hg]; exact Nat.ne_of_lt (IsS164.lt (show IsS164 w _ g541 t538 t554 t555 from by repeat (first | (with_reducible first | exact HI541.out | apply IsS164.alloc | apply IsS164.drewN | apply IsS164.drew | apply IsS164.set_1 | apply IsS164.set_2 | refine IsS164.far ?_ NB541_536.out _ | refine IsS164.far ?_ NB541_537.out _ | refine IsS164.far ?_ NB541_548.out _) | exact HI541.out))) : g541 ≠ gb560))
      have NB560_541 := Aside0.mk ((by rw [hg]; exact Nat.ne_of_gt (IsS164.lt (show IsS164 w _ g541 t538 t554 t555 from by repeat (first | (with_reducible first | exact HI541.out | apply IsS164.alloc | apply IsS164.drewN | apply IsS164.drew | apply IsS164.set_1 | apply IsS164.set_2 | refine IsS164.far ?_ NB541_536.out _ | refine IsS164.far ?_ NB541_537.out _ | refine IsS164.far ?_ NB541_548.out _) | exact HI541.out))) : gb560 ≠ g541))
      replace BK536 := bb_ BK536 hb
      replace BK537 := bb_ BK537 hb
      replace BK548 := bb_ BK548 hb
      replace HB := Aside0.mk (below_step (by repeat (first | (with_reducible first | exact HB.out | apply below_alloc | apply pw_below_drewN | apply below_drew1 | refine below_set ?_ (IsS164.ge HI541.out) | refine below_set ?_ GW536.out | refine below_set ?_ GW537.out | refine below_set ?_ GE548.out) | exact HB.out)) hb)
      replace HI541 := Aside0.mk (IsS164.below (by repeat (first | (with_reducible first | exact HI541.out | apply IsS164.alloc | apply IsS164.drewN | apply IsS164.drew | apply IsS164.set_1 | apply IsS164.set_2 | refine IsS164.far ?_ NB541_536.out _ | refine IsS164.far ?_ NB541_537.out _ | refine IsS164.far ?_ NB541_548.out _) | exact HI541.out)) hb)
      clear hb hg
      refine hK.out _ _ ⟨cz_ BK548 0, cz_ BK548 1, cz_ BK548 2⟩ (fun hHeld => ?_)
      clear hK K
      refine nm_ (some 8) ?_
      refine on_ HT_ 4 (some 30) (bv_ 11 287) (fun K hK => ?_)
      refine gs_ Try.func114 #[.int .i64 t542, .agg #[.int .i64 t543, .int .i64 t544, .int .i64 t545], .int .i64 t553] ?_
      with_reducible refine (spec_l07Ball.calls kj3 t542 t543 t544 t545 t553 t556 t557 t558 true _ A30.out).mono ?_
      rintro e w35 ⟨rfl, hb⟩
      refine ⟨_, rfl, ?_⟩
      replace BK536 := bb_ BK536 hb
      replace BK537 := bb_ BK537 hb
      replace BK548 := bb_ BK548 hb
      replace BK560 := bb_ BK560 hb
      replace HB := Aside0.mk (below_step (by repeat (first | (with_reducible first | exact HB.out | apply below_alloc | apply pw_below_drewN | apply below_drew1 | refine below_set ?_ (IsS164.ge HI541.out) | refine below_set ?_ GW536.out | refine below_set ?_ GW537.out | refine below_set ?_ GE548.out | refine below_set ?_ GE560.out) | exact HB.out)) hb)
      replace HI541 := Aside0.mk (IsS164.below (by repeat (first | (with_reducible first | exact HI541.out | apply IsS164.alloc | apply IsS164.drewN | apply IsS164.drew | apply IsS164.set_1 | apply IsS164.set_2 | refine IsS164.far ?_ NB541_536.out _ | refine IsS164.far ?_ NB541_537.out _ | refine IsS164.far ?_ NB541_548.out _ | refine IsS164.far ?_ NB541_560.out _) | exact HI541.out)) hb)
      try clear hb
      refine hK.out _ _ ⟨cz_ BK548 0, cz_ BK548 1, cz_ BK548 2⟩ (fun hHeld => ?_)
      clear hK K
      refine nm_ (some 30) ?_
      refine px_ HT_ 5 25 319 ?_
      refine px_ HT_ 6 31 383 ?_
      refine px_ HT_ 7 32 511 ?_
      exact norm_ (by simp only [putAll, Act.put, lstS, lstZ, lstC]) (hCont (gb560) _ ⟨hHeld, (bl_ BK536).out, (bl_ BK537).out, (bl_ BK548).out, (bl_ BK560).out, GW560.out, GE560.out, NB541_560.out, NB560_541.out, NB536_560.out, NB560_536.out, NB537_560.out, NB560_537.out, NB548_560.out, NB560_548.out, (by repeat (first | (with_reducible first | exact HI541.out | apply IsS164.alloc | apply IsS164.drewN | apply IsS164.drew | apply IsS164.set_1 | apply IsS164.set_2 | refine IsS164.far ?_ NB541_536.out _ | refine IsS164.far ?_ NB541_537.out _ | refine IsS164.far ?_ NB541_548.out _ | refine IsS164.far ?_ NB541_560.out _) | exact HI541.out)), (by repeat (first | (with_reducible first | exact HB.out | apply below_alloc | apply pw_below_drewN | apply below_drew1 | refine below_set ?_ (IsS164.ge HI541.out) | refine below_set ?_ GW536.out | refine below_set ?_ GW537.out | refine below_set ?_ GE548.out | refine below_set ?_ GE560.out) | exact HB.out))⟩)
     skip
     refine bz_ 8 #[.int .i64 0, .int .i64 0, .int .i64 0] 25 ?_
     intro gb560 hg w33 BK560 hb
     have GW560 := Aside0.mk ((by rw [hg]; exact (below_size (by repeat (first | (with_reducible first | exact HB.out | apply below_alloc | apply pw_below_drewN | apply below_drew1 | refine below_set ?_ (IsS164.ge HI541.out) | refine below_set ?_ GW536.out | refine below_set ?_ GW537.out | refine below_set ?_ GE548.out) | exact HB.out))) : w.heap.size ≤ gb560))
     have GE560 := Aside0.mk ((by rw [hg]; exact (below_size (by repeat (first | (with_reducible first | exact HB.out | apply below_alloc | apply pw_below_drewN | apply below_drew1 | refine below_set ?_ (IsS164.ge HI541.out) | refine below_set ?_ GW536.out | refine below_set ?_ GW537.out | refine below_set ?_ GE548.out) | exact HB.out))) : w.heap.size ≤ gb560))
     have NB536_560 := bm_ BK536 hg
     have NB560_536 := bn_ BK536 hg
     have NB537_560 := bm_ BK537 hg
     have NB560_537 := bn_ BK537 hg
     have NB548_560 := bm_ BK548 hg
     have NB560_548 := bn_ BK548 hg
     have NB541_560 := Aside0.mk ((by rw [hg]; exact Nat.ne_of_lt (IsS164.lt (show IsS164 w _ g541 t538 x542001_3 x542002_3 from by repeat (first | (with_reducible first | exact HI541.out | apply IsS164.alloc | apply IsS164.drewN | apply IsS164.drew | apply IsS164.set_1 | apply IsS164.set_2 | refine IsS164.far ?_ NB541_536.out _ | refine IsS164.far ?_ NB541_537.out _ | refine IsS164.far ?_ NB541_548.out _) | exact HI541.out))) : g541 ≠ gb560))
     have NB560_541 := Aside0.mk ((by rw [hg]; exact Nat.ne_of_gt (IsS164.lt (show IsS164 w _ g541 t538 x542001_3 x542002_3 from by repeat (first | (with_reducible first | exact HI541.out | apply IsS164.alloc | apply IsS164.drewN | apply IsS164.drew | apply IsS164.set_1 | apply IsS164.set_2 | refine IsS164.far ?_ NB541_536.out _ | refine IsS164.far ?_ NB541_537.out _ | refine IsS164.far ?_ NB541_548.out _) | exact HI541.out))) : gb560 ≠ g541))
     replace BK536 := bb_ BK536 hb
     replace BK537 := bb_ BK537 hb
     replace BK548 := bb_ BK548 hb
     replace HB := Aside0.mk (below_step (by repeat (first | (with_reducible first | exact HB.out | apply below_alloc | apply pw_below_drewN | apply below_drew1 | refine below_set ?_ (IsS164.ge HI541.out) | refine below_set ?_ GW536.out | refine below_set ?_ GW537.out | refine below_set ?_ GE548.out) | exact HB.out)) hb)
     replace HI541 := Aside0.mk (IsS164.below (by repeat (first | (with_reducible first | exact HI541.out | apply IsS164.alloc | apply IsS164.drewN | apply IsS164.drew | apply IsS164.set_1 | apply IsS164.set_2 | refine IsS164.far ?_ NB541_536.out _ | refine IsS164.far ?_ NB541_537.out _ | refine IsS164.far ?_ NB541_548.out _) | exact HI541.out)) hb)
     clear hb hg
     refine hK.out _ _ ⟨cz_ BK548 0, cz_ BK548 1, cz_ BK548 2⟩ (fun hHeld => ?_)
     clear hK K
     refine nm_ (some 8) ?_
     refine on_ HT_ 3 (some 29) (bv_ 11 271) (fun K hK => ?_)
     refine gs_ Try.func108 #[.pointer (some ⟨g541, 0, none⟩), .int .i64 40] ?_
     with_reducible refine (spec_l01Next.calls g541 t538 x542001_3 x542002_3 40 t553 t554 t555 w _ ?side1 ?side2 A29.out).mono ?_
     (case side1 => repeat (first | (with_reducible first | exact HI541.out | apply IsS164.alloc | apply IsS164.drewN | apply IsS164.drew | apply IsS164.set_1 | apply IsS164.set_2 | refine IsS164.far ?_ NB541_536.out _ | refine IsS164.far ?_ NB541_537.out _ | refine IsS164.far ?_ NB541_548.out _ | refine IsS164.far ?_ NB541_560.out _) | exact HI541.out))
     (case side2 => repeat (first | (with_reducible first | exact HB.out | apply below_alloc | apply pw_below_drewN | apply below_drew1 | refine below_set ?_ (IsS164.ge HI541.out) | refine below_set ?_ GW536.out | refine below_set ?_ GW537.out | refine below_set ?_ GE548.out | refine below_set ?_ GE560.out) | exact HB.out))
     rintro e w34 ⟨rfl, hi, hb, hk⟩
     refine ⟨_, rfl, ?_⟩
     replace BK536 := Aside0.mk (KeepBut.blk hk (g' := gb536) (o := .cells #[.int .i64 0, .int .i64 0, .int .i64 0] 25 (0, 0)) (bl_ BK536).out NB536_541.out (by simp))
     replace BK537 := Aside0.mk (KeepBut.blk hk (g' := gb537) (o := .cells #[.int .i64 0, .int .i64 0, .int .i64 0] 25 (0, 0)) (bl_ BK537).out NB537_541.out (by simp))
     replace BK548 := Aside0.mk (KeepBut.blk hk (g' := gb548) (o := .cells #[.int .i64 t543, .int .i64 t544, .int .i64 t545] 25 (0, 0)) (bl_ BK548).out NB548_541.out (by simp))
     replace BK560 := Aside0.mk (KeepBut.blk hk (g' := gb560) (o := .cells #[.int .i64 0, .int .i64 0, .int .i64 0] 25 (0, 0)) (bl_ BK560).out NB560_541.out (by simp))
     replace HB := Aside0.mk (hb)
     replace HI541 := Aside0.mk (hi)
     try clear hb
     try clear hk
     try clear hi
     refine hK.out _ _ ⟨cz_ BK548 0, cz_ BK548 1, cz_ BK548 2⟩ (fun hHeld => ?_)
     clear hK K
     refine nm_ (some 29) ?_
     refine on_ HT_ 4 (some 30) (bv_ 11 287) (fun K hK => ?_)
     refine gs_ Try.func114 #[.int .i64 t542, .agg #[.int .i64 t543, .int .i64 t544, .int .i64 t545], .int .i64 t553] ?_
     with_reducible refine (spec_l07Ball.calls kj3 t542 t543 t544 t545 t553 t556 t557 t558 true _ A30.out).mono ?_
     rintro e w35 ⟨rfl, hb⟩
     refine ⟨_, rfl, ?_⟩
     replace BK536 := bb_ BK536 hb
     replace BK537 := bb_ BK537 hb
     replace BK548 := bb_ BK548 hb
     replace BK560 := bb_ BK560 hb
     replace HB := Aside0.mk (below_step (by repeat (first | (with_reducible first | exact HB.out | apply below_alloc | apply pw_below_drewN | apply below_drew1 | refine below_set ?_ (IsS164.ge HI541.out) | refine below_set ?_ GW536.out | refine below_set ?_ GW537.out | refine below_set ?_ GE548.out | refine below_set ?_ GE560.out) | exact HB.out)) hb)
     replace HI541 := Aside0.mk (IsS164.below (by repeat (first | (with_reducible first | exact HI541.out | apply IsS164.alloc | apply IsS164.drewN | apply IsS164.drew | apply IsS164.set_1 | apply IsS164.set_2 | refine IsS164.far ?_ NB541_536.out _ | refine IsS164.far ?_ NB541_537.out _ | refine IsS164.far ?_ NB541_548.out _ | refine IsS164.far ?_ NB541_560.out _) | exact HI541.out)) hb)
     try clear hb
     refine hK.out _ _ ⟨cz_ BK548 0, cz_ BK548 1, cz_ BK548 2⟩ (fun hHeld => ?_)
     clear hK K
     refine nm_ (some 30) ?_
     refine px_ HT_ 5 25 319 ?_
     refine px_ HT_ 6 31 383 ?_
     refine px_ HT_ 7 32 511 ?_
     exact norm_ (by simp only [putAll, Act.put, lstS, lstZ, lstC]) (hCont (gb560) _ ⟨hHeld, (bl_ BK536).out, (bl_ BK537).out, (bl_ BK548).out, (bl_ BK560).out, GW560.out, GE560.out, NB541_560.out, NB560_541.out, NB536_560.out, NB560_536.out, NB537_560.out, NB560_537.out, NB548_560.out, NB560_548.out, (by repeat (first | (with_reducible first | exact HI541.out | apply IsS164.alloc | apply IsS164.drewN | apply IsS164.drew | apply IsS164.set_1 | apply IsS164.set_2 | refine IsS164.far ?_ NB541_536.out _ | refine IsS164.far ?_ NB541_537.out _ | refine IsS164.far ?_ NB541_548.out _ | refine IsS164.far ?_ NB541_560.out _) | exact HI541.out)), (by repeat (first | (with_reducible first | exact HB.out | apply below_alloc | apply pw_below_drewN | apply below_drew1 | refine below_set ?_ (IsS164.ge HI541.out) | refine below_set ?_ GW536.out | refine below_set ?_ GW537.out | refine below_set ?_ GE548.out | refine below_set ?_ GE560.out) | exact HB.out))⟩)
    rintro gb560 w36 ⟨hS_, h0_, h1_, h2_, h3_, h4_, h5_, h6_, h7_, h8_, h9_, h10_, h11_, h12_, h13_, h14_, h15_⟩
    clear BK536 BK537 BK548 HI541 HB
    have BK536 := Aside0.mk h0_
    have BK537 := Aside0.mk h1_
    have BK548 := Aside0.mk h2_
    have BK560 := Aside0.mk h3_
    have GW560 := Aside0.mk h4_
    have GE560 := Aside0.mk h5_
    have NB541_560 := Aside0.mk h6_
    have NB560_541 := Aside0.mk h7_
    have NB536_560 := Aside0.mk h8_
    have NB560_536 := Aside0.mk h9_
    have NB537_560 := Aside0.mk h10_
    have NB560_537 := Aside0.mk h11_
    have NB548_560 := Aside0.mk h12_
    have NB560_548 := Aside0.mk h13_
    have HI541 := Aside0.mk h14_
    have HB := Aside0.mk h15_
    clear h0_ h1_ h2_ h3_ h4_ h5_ h6_ h7_ h8_ h9_ h10_ h11_ h12_ h13_ h14_ h15_
    have hHeld : w36.cell? ⟨gb548, 0, none⟩ = some (.int .i64 t543) ∧ w36.cell? ⟨gb548, 1, none⟩ = some (.int .i64 t544) ∧ w36.cell? ⟨gb548, 2, none⟩ = some (.int .i64 t545) := hS_
    refine norm_ (a' := ?_) ?_ ?_
    rotate_left
    ·simp only [putAll, Act.put, lstS, lstZ, lstC]
     rfl
    refine on_ HT_ 9 none (bv_ 11 1023) (fun K hK => ?_)
    have hs37 : w36.cell? ⟨gb560, 0, none⟩ = some (.int .i64 0) := (blk_cell BK560.out 0).trans rfl
    have hfs37 := blk_frozen BK560.out 0
    have hns37_0 := NB536_560.out
    have hns37_1 := NB537_560.out
    have hns37_2 := NB548_560.out
    have hms37_0 := NB560_536.out
    have hms37_1 := NB560_537.out
    have hms37_2 := NB560_548.out
    have hs38 : w36.cell? ⟨gb560, 1, none⟩ = some (.int .i64 0) := (blk_cell BK560.out 1).trans rfl
    have hfs38 := blk_frozen BK560.out 1
    have hns38_0 := NB536_560.out
    have hns38_1 := NB537_560.out
    have hns38_2 := NB548_560.out
    have hms38_0 := NB560_536.out
    have hms38_1 := NB560_537.out
    have hms38_2 := NB560_548.out
    have hs39 : w36.cell? ⟨gb560, 2, none⟩ = some (.int .i64 0) := (blk_cell BK560.out 2).trans rfl
    have hfs39 := blk_frozen BK560.out 2
    have hns39_0 := NB536_560.out
    have hns39_1 := NB537_560.out
    have hns39_2 := NB548_560.out
    have hms39_0 := NB560_536.out
    have hms39_1 := NB560_537.out
    have hms39_2 := NB560_548.out
    refine skip_ (w1 := ?_) (by rfl) rfl ?_ ?_
    rotate_left
    ·go_simp
     rfl
    refine hK.out _ _ ⟨(cg_ NB548_560 ((cg_ NB548_560 ((cg_ NB548_560 (hHeld.1)))))), (cg_ NB548_560 ((cg_ NB548_560 ((cg_ NB548_560 (hHeld.2.1)))))), (cg_ NB548_560 ((cg_ NB548_560 ((cg_ NB548_560 (hHeld.2.2))))))⟩ (fun hHeld => ?_)
    clear hK K
    refine px_ HT_ 10 9 2047 ?_
    refine done_ (done_of HT_.out (by kernel_rfl)) ?_
    try go_wp2
    have n0_ : Aside0 ((((w36.setCell ⟨gb560, 0, none⟩ (.int .i64 t556)).setCell ⟨gb560, 1, none⟩ (.int .i64 t557)).setCell ⟨gb560, 2, none⟩ (.int .i64 t558)).heap[gb536]? = some (.cells #[.int .i64 0, .int .i64 0, .int .i64 0] 25 (0, 0))) := fl_ BK536 NB536_560
    have n1_ : Aside0 ((((w36.setCell ⟨gb560, 0, none⟩ (.int .i64 t556)).setCell ⟨gb560, 1, none⟩ (.int .i64 t557)).setCell ⟨gb560, 2, none⟩ (.int .i64 t558)).heap[gb537]? = some (.cells #[.int .i64 0, .int .i64 0, .int .i64 0] 25 (0, 0))) := fl_ BK537 NB537_560
    have n2_ : Aside0 ((((w36.setCell ⟨gb560, 0, none⟩ (.int .i64 t556)).setCell ⟨gb560, 1, none⟩ (.int .i64 t557)).setCell ⟨gb560, 2, none⟩ (.int .i64 t558)).heap[gb548]? = some (.cells #[.int .i64 t543, .int .i64 t544, .int .i64 t545] 25 (0, 0))) := fl_ BK548 NB548_560
    have n3_ : Aside0 ((((w36.setCell ⟨gb560, 0, none⟩ (.int .i64 t556)).setCell ⟨gb560, 1, none⟩ (.int .i64 t557)).setCell ⟨gb560, 2, none⟩ (.int .i64 t558)).heap[gb560]? = some (.cells #[.int .i64 t556, .int .i64 t557, .int .i64 t558] 25 (0, 0))) := bp_ BK560
    have n4_ : Aside0 (IsS164 w (((w36.setCell ⟨gb560, 0, none⟩ (.int .i64 t556)).setCell ⟨gb560, 1, none⟩ (.int .i64 t557)).setCell ⟨gb560, 2, none⟩ (.int .i64 t558)) g541 t538 t554 t555) := ⟨by repeat (first | (with_reducible first | exact HI541.out | apply IsS164.alloc | apply IsS164.drewN | apply IsS164.drew | apply IsS164.set_1 | apply IsS164.set_2 | refine IsS164.far ?_ NB541_536.out _ | refine IsS164.far ?_ NB541_537.out _ | refine IsS164.far ?_ NB541_548.out _ | refine IsS164.far ?_ NB541_560.out _) | exact HI541.out)⟩
    have n5_ : Aside0 (Below w.heap.size w (((w36.setCell ⟨gb560, 0, none⟩ (.int .i64 t556)).setCell ⟨gb560, 1, none⟩ (.int .i64 t557)).setCell ⟨gb560, 2, none⟩ (.int .i64 t558))) := ⟨by repeat (first | (with_reducible first | exact HB.out | apply below_alloc | apply pw_below_drewN | apply below_drew1 | refine below_set ?_ (IsS164.ge HI541.out) | refine below_set ?_ GW536.out | refine below_set ?_ GW537.out | refine below_set ?_ GE548.out | refine below_set ?_ GE560.out) | exact HB.out)⟩
    (try clear BK536)
    (try clear BK537)
    (try clear BK548)
    (try clear BK560)
    (try clear HI541)
    (try clear HB)
    generalize (((w36.setCell ⟨gb560, 0, none⟩ (.int .i64 t556)).setCell ⟨gb560, 1, none⟩ (.int .i64 t557)).setCell ⟨gb560, 2, none⟩ (.int .i64 t558)) = w40 at n0_ n1_ n2_ n3_ n4_ n5_ ⊢
    have BK536 := n0_
    have BK537 := n1_
    have BK548 := n2_
    have BK560 := n3_
    have HI541 := n4_
    have HB := n5_
    clear n0_ n1_ n2_ n3_ n4_ n5_
    replace BK536 := bd_ BK536
    replace BK537 := bd_ BK537
    replace BK548 := bd_ BK548
    replace BK560 := bd_ BK560
    replace HI541 := Aside0.mk (IsS164.drew HI541.out)
    replace HB := be_ HB
    refine start_ (n := 6) (S := fun w' => w'.cell? ⟨gb548, 0, none⟩ = some (.int .i64 t543) ∧ w'.cell? ⟨gb548, 1, none⟩ = some (.int .i64 t544) ∧ w'.cell? ⟨gb548, 2, none⟩ = some (.int .i64 t545) ∧ w'.cell? ⟨gb560, 0, none⟩ = some (.int .i64 t556) ∧ w'.cell? ⟨gb560, 1, none⟩ = some (.int .i64 t557) ∧ w'.cell? ⟨gb560, 2, none⟩ = some (.int .i64 t558)) (ds := []) (bv_ 6 0) (by kernel_rfl) rfl rfl ⟨cz_ BK548 0, cz_ BK548 1, cz_ BK548 2, cz_ BK560 0, cz_ BK560 1, cz_ BK560 2⟩ (fun hHeld => ?_)
    generalize w40.drew = w41 at BK536 BK537 BK548 BK560 HI541 HB hHeld ⊢
    refine pure_ (i := 0) (N := some 34) (v := ?_) (a' := ?_) (bv_ 6 1) rfl rfl (by kernel_rfl) (fun _ _ _ h => h) (Or.inl ⟨by rfl, ?_⟩) ?_ ?_
    rotate_left
    ·intro w'
     go_simp
     with_reducible rfl
    rotate_left
    ·simp only [Act.put, lstS, lstZ, lstC, i64_w, i32_w]
     rfl
    refine pure_ (i := 3) (N := some 2) (v := ?_) (a' := ?_) (bv_ 6 9) rfl rfl (by kernel_rfl) (fun _ _ _ h => h) (Or.inl ⟨by rfl, ?_⟩) ?_ ?_
    rotate_left
    ·intro w'
     go_simp
     with_reducible rfl
    rotate_left
    ·simp only [Act.put, lstS, lstZ, lstC, i64_w, i32_w]
     rfl
    refine take_ (i := 1) (N := some 35) (v := ?_) (a' := ?_) (bv_ 6 11) rfl rfl (by kernel_rfl) (fun _ _ _ h => h) (Or.inl ⟨by rfl, ?_⟩) hHeld ?_ ?_
    rotate_left
    ·rintro w' ⟨s0, s1, s2, s3, s4, s5⟩
     go_simp
     with_reducible rfl
    rotate_left
    ·simp only [Act.put, lstS, lstZ, lstC, i64_w, i32_w]
     rfl
    refine take_ (i := 2) (N := some 36) (v := ?_) (a' := ?_) (bv_ 6 15) rfl rfl (by kernel_rfl) (fun _ _ _ h => h) (Or.inl ⟨by rfl, ?_⟩) hHeld ?_ ?_
    rotate_left
    ·rintro w' ⟨s0, s1, s2, s3, s4, s5⟩
     go_simp
     with_reducible rfl
    rotate_left
    ·simp only [Act.put, lstS, lstZ, lstC, i64_w, i32_w]
     rfl
    refine one_ (i := 4) (N := none) (bv_ 6 31) rfl rfl (by kernel_rfl) (by decide) (fun K hK => ?_)
    have hs42 : w41.cell? ⟨gb536, 0, none⟩ = some (.int .i64 0) := (blk_cell BK536.out 0).trans rfl
    have hfs42 := blk_frozen BK536.out 0
    have hns42_1 := NB537_536.out
    have hns42_2 := NB548_536.out
    have hns42_3 := NB560_536.out
    have hms42_1 := NB536_537.out
    have hms42_2 := NB536_548.out
    have hms42_3 := NB536_560.out
    have hs43 : w41.cell? ⟨gb536, 1, none⟩ = some (.int .i64 0) := (blk_cell BK536.out 1).trans rfl
    have hfs43 := blk_frozen BK536.out 1
    have hns43_1 := NB537_536.out
    have hns43_2 := NB548_536.out
    have hns43_3 := NB560_536.out
    have hms43_1 := NB536_537.out
    have hms43_2 := NB536_548.out
    have hms43_3 := NB536_560.out
    have hs44 : w41.cell? ⟨gb536, 2, none⟩ = some (.int .i64 0) := (blk_cell BK536.out 2).trans rfl
    have hfs44 := blk_frozen BK536.out 2
    have hns44_1 := NB537_536.out
    have hns44_2 := NB548_536.out
    have hns44_3 := NB560_536.out
    have hms44_1 := NB536_537.out
    have hms44_2 := NB536_548.out
    have hms44_3 := NB536_560.out
    refine skip_ (w1 := ?_) (by rfl) rfl ?_ ?_
    rotate_left
    ·go_simp
     rfl
    refine hK.out _ _ ⟨(cg_ NB548_536 ((cg_ NB548_536 ((cg_ NB548_536 (hHeld.1)))))), (cg_ NB548_536 ((cg_ NB548_536 ((cg_ NB548_536 (hHeld.2.1)))))), (cg_ NB548_536 ((cg_ NB548_536 ((cg_ NB548_536 (hHeld.2.2.1)))))), (cg_ NB560_536 ((cg_ NB560_536 ((cg_ NB560_536 (hHeld.2.2.2.1)))))), (cg_ NB560_536 ((cg_ NB560_536 ((cg_ NB560_536 (hHeld.2.2.2.2.1)))))), (cg_ NB560_536 ((cg_ NB560_536 ((cg_ NB560_536 (hHeld.2.2.2.2.2))))))⟩ (fun hHeld => ?_)
    clear hK K
    refine one_ (i := 5) (N := none) (bv_ 6 63) rfl rfl (by kernel_rfl) (by decide) (fun K hK => ?_)
    have hs45 : w41.cell? ⟨gb537, 0, none⟩ = some (.int .i64 0) := (blk_cell BK537.out 0).trans rfl
    have hfs45 := blk_frozen BK537.out 0
    have hns45_0 := NB536_537.out
    have hns45_2 := NB548_537.out
    have hns45_3 := NB560_537.out
    have hms45_0 := NB537_536.out
    have hms45_2 := NB537_548.out
    have hms45_3 := NB537_560.out
    have hs46 : w41.cell? ⟨gb537, 1, none⟩ = some (.int .i64 0) := (blk_cell BK537.out 1).trans rfl
    have hfs46 := blk_frozen BK537.out 1
    have hns46_0 := NB536_537.out
    have hns46_2 := NB548_537.out
    have hns46_3 := NB560_537.out
    have hms46_0 := NB537_536.out
    have hms46_2 := NB537_548.out
    have hms46_3 := NB537_560.out
    have hs47 : w41.cell? ⟨gb537, 2, none⟩ = some (.int .i64 0) := (blk_cell BK537.out 2).trans rfl
    have hfs47 := blk_frozen BK537.out 2
    have hns47_0 := NB536_537.out
    have hns47_2 := NB548_537.out
    have hns47_3 := NB560_537.out
    have hms47_0 := NB537_536.out
    have hms47_2 := NB537_548.out
    have hms47_3 := NB537_560.out
    refine skip_ (w1 := ?_) (by rfl) rfl ?_ ?_
    rotate_left
    ·go_simp
     rfl
    refine hK.out _ _ ⟨(cg_ NB548_537 ((cg_ NB548_537 ((cg_ NB548_537 (hHeld.1)))))), (cg_ NB548_537 ((cg_ NB548_537 ((cg_ NB548_537 (hHeld.2.1)))))), (cg_ NB548_537 ((cg_ NB548_537 ((cg_ NB548_537 (hHeld.2.2.1)))))), (cg_ NB560_537 ((cg_ NB560_537 ((cg_ NB560_537 (hHeld.2.2.2.1)))))), (cg_ NB560_537 ((cg_ NB560_537 ((cg_ NB560_537 (hHeld.2.2.2.2.1)))))), (cg_ NB560_537 ((cg_ NB560_537 ((cg_ NB560_537 (hHeld.2.2.2.2.2))))))⟩ (fun hHeld => ?_)
    clear hK K
    refine done_ (by kernel_rfl) ?_
    try go_wp2
    refine bodyPost_ret (results_list (rs := [.tmp 2, .cell 3 25, .cell 4 25]) rfl (by simp) (.tmp (.cell gb536 25 #[.int .i64 t543, .int .i64 t544, .int .i64 t545] (0, 0) _ rfl (bp_ BK536).out Try.underlying25 rfl (by kernel_rfl) (.cell gb537 25 #[.int .i64 t556, .int .i64 t557, .int .i64 t558] (0, 0) _ rfl (bp_ BK537).out Try.underlying25 rfl (by kernel_rfl) .nil)))) rfl ?_
    exact ⟨es_, by repeat (first | (with_reducible first | exact HB.out | apply below_alloc | apply pw_below_drewN | apply below_drew1 | refine below_set ?_ (IsS164.ge HI541.out) | refine below_set ?_ GW536.out | refine below_set ?_ GW537.out | refine below_set ?_ GE548.out | refine below_set ?_ GE560.out) | exact HB.out)⟩
   obtain ⟨ji48, hji48⟩ : ∃ j_ : Int, (mx t542 2) = j_ := ⟨_, rfl⟩
   replace H : ((spec_l01Draw.f kj3 t538 t554 t555 (mn (ji48) 3)).bind fun bt561 => (some (t542, t543, t544, t545, bt561.1, bt561.2.1, bt561.2.2.1))) = some (r1, r2, r3, r4, r5, r6, r7) := by first | (rw [hji48] at H; exact H) | (simp only [hji48] at H ⊢; exact H)
   (try rw [hji48] at A29)
   (try rw [hji48] at A30)
   have hji48_ : (if t542 < 2 then 2 else t542) = ji48 := hji48
   obtain ⟨ji49, hji49⟩ : ∃ j_ : Int, (mn (ji48) 3) = j_ := ⟨_, rfl⟩
   replace H : ((spec_l01Draw.f kj3 t538 t554 t555 (ji49)).bind fun bt561 => (some (t542, t543, t544, t545, bt561.1, bt561.2.1, bt561.2.2.1))) = some (r1, r2, r3, r4, r5, r6, r7) := by first | (rw [hji49] at H; exact H) | (simp only [hji49] at H ⊢; exact H)
   (try rw [hji49] at A29)
   (try rw [hji49] at A30)
   have hji49_ : (if 3 < (ji48) then 3 else (ji48)) = ji49 := hji49
   replace H := oc_ H
   obtain ⟨⟨t561, t562, t563, t564, t565⟩, A50, H⟩ := H
   simp only [Option.some.injEq, Prod.mk.injEq] at H
   obtain ⟨rfl, rfl, rfl, rfl, rfl, rfl, rfl⟩ := H
   try go_wp2
   replace BK536 := bd_ BK536
   replace BK537 := bd_ BK537
   replace BK548 := bd_ BK548
   replace HI541 := Aside0.mk (IsS164.drew HI541.out)
   replace HB := be_ HB
   refine start_ (n := 11) (S := fun w' => w'.cell? ⟨gb548, 0, none⟩ = some (.int .i64 t543) ∧ w'.cell? ⟨gb548, 1, none⟩ = some (.int .i64 t544) ∧ w'.cell? ⟨gb548, 2, none⟩ = some (.int .i64 t545)) (ds := []) (bv_ 11 0) (by kernel_rfl) rfl rfl ⟨cz_ BK548 0, cz_ BK548 1, cz_ BK548 2⟩ (fun hHeld => ?_); refine with_tabW spec_DrawPlaceOfBall.tab4 spec_DrawPlaceOfBall.bits4 (fun HT_ HW_ => ?_)
   generalize wc.drew = w51 at BK536 BK537 BK548 HI541 HB hHeld ⊢
   refine px_ HT_ 0 26 1 ?_
   refine px_ HT_ 2 28 5 ?_
   refine ta_ HT_ HW_ 1 (some 27) (bv_ 11 7) hHeld ?_ (hy := by rintro w' ⟨s0, s1, s2⟩; go_simp; with_reducible rfl)
   refine join_ (σ := Nat) 2 (bv_ 11 511) (fun s_ => [(29, .int .i64 t553), (30, .tuple #[.agg #[.int .i64 t556, .int .i64 t557, .int .i64 t558], .bool false]), (8, .pointer (some ⟨s_, 0, none⟩)), (25, .tuple #[.agg #[.int .i64 t556, .int .i64 t557, .int .i64 t558], .bool false]), (31, .agg #[.int .i64 t556, .int .i64 t557, .int .i64 t558]), (32, .bool false)]) (fun s_ w' => (w'.cell? ⟨gb548, 0, none⟩ = some (.int .i64 t543) ∧ w'.cell? ⟨gb548, 1, none⟩ = some (.int .i64 t544) ∧ w'.cell? ⟨gb548, 2, none⟩ = some (.int .i64 t545)) ∧ (w'.heap[gb536]? = some (.cells #[.int .i64 0, .int .i64 0, .int .i64 0] 25 (0, 0))) ∧ (w'.heap[gb537]? = some (.cells #[.int .i64 0, .int .i64 0, .int .i64 0] 25 (0, 0))) ∧ (w'.heap[gb548]? = some (.cells #[.int .i64 t543, .int .i64 t544, .int .i64 t545] 25 (0, 0))) ∧ (w'.heap[s_]? = some (.cells #[.int .i64 0, .int .i64 0, .int .i64 0] 25 (0, 0))) ∧ (w.heap.size ≤ s_) ∧ (w.heap.size ≤ s_) ∧ (g541 ≠ s_) ∧ (s_ ≠ g541) ∧ (gb536 ≠ s_) ∧ (s_ ≠ gb536) ∧ (gb537 ≠ s_) ∧ (s_ ≠ gb537) ∧ (gb548 ≠ s_) ∧ (s_ ≠ gb548) ∧ (IsS164 w w' g541 t538 t554 t555) ∧ (Below w.heap.size w w')) ?_ ?_
   rotate_left
   ·intro hCont
    refine tw_ HT_ 3 8 (some 29) (some 8) (bv_ 11 15) (bv_ 11 263) (fun K hK => ?_) (fun K hK => ?_)
    ·skip
     refine gs_ Try.func108 #[.pointer (some ⟨g541, 0, none⟩), .int .i64 40] ?_
     with_reducible refine (spec_l01Next.calls g541 t538 x542001_3 x542002_3 40 t553 t554 t555 w _ ?side1 ?side2 A29.out).mono ?_
     (case side1 => repeat (first | (with_reducible first | exact HI541.out | apply IsS164.alloc | apply IsS164.drewN | apply IsS164.drew | apply IsS164.set_1 | apply IsS164.set_2 | refine IsS164.far ?_ NB541_536.out _ | refine IsS164.far ?_ NB541_537.out _ | refine IsS164.far ?_ NB541_548.out _) | exact HI541.out))
     (case side2 => repeat (first | (with_reducible first | exact HB.out | apply below_alloc | apply pw_below_drewN | apply below_drew1 | refine below_set ?_ (IsS164.ge HI541.out) | refine below_set ?_ GW536.out | refine below_set ?_ GW537.out | refine below_set ?_ GE548.out) | exact HB.out))
     rintro e w52 ⟨rfl, hi, hb, hk⟩
     refine ⟨_, rfl, ?_⟩
     replace BK536 := Aside0.mk (KeepBut.blk hk (g' := gb536) (o := .cells #[.int .i64 0, .int .i64 0, .int .i64 0] 25 (0, 0)) (bl_ BK536).out NB536_541.out (by simp))
     replace BK537 := Aside0.mk (KeepBut.blk hk (g' := gb537) (o := .cells #[.int .i64 0, .int .i64 0, .int .i64 0] 25 (0, 0)) (bl_ BK537).out NB537_541.out (by simp))
     replace BK548 := Aside0.mk (KeepBut.blk hk (g' := gb548) (o := .cells #[.int .i64 t543, .int .i64 t544, .int .i64 t545] 25 (0, 0)) (bl_ BK548).out NB548_541.out (by simp))
     replace HB := Aside0.mk (hb)
     replace HI541 := Aside0.mk (hi)
     try clear hb
     try clear hk
     try clear hi
     refine hK.out _ _ ⟨cz_ BK548 0, cz_ BK548 1, cz_ BK548 2⟩ (fun hHeld => ?_)
     clear hK K
     refine nm_ (some 29) ?_
     refine tw_ HT_ 4 8 (some 30) (some 8) (bv_ 11 31) (bv_ 11 271) (fun K hK => ?_) (fun K hK => ?_)
     ·skip
      refine gs_ Try.func114 #[.int .i64 t542, .agg #[.int .i64 t543, .int .i64 t544, .int .i64 t545], .int .i64 t553] ?_
      with_reducible refine (spec_l07Ball.calls kj3 t542 t543 t544 t545 t553 t556 t557 t558 false _ A30.out).mono ?_
      rintro e w53 ⟨rfl, hb⟩
      refine ⟨_, rfl, ?_⟩
      replace BK536 := bb_ BK536 hb
      replace BK537 := bb_ BK537 hb
      replace BK548 := bb_ BK548 hb
      replace HB := Aside0.mk (below_step (by repeat (first | (with_reducible first | exact HB.out | apply below_alloc | apply pw_below_drewN | apply below_drew1 | refine below_set ?_ (IsS164.ge HI541.out) | refine below_set ?_ GW536.out | refine below_set ?_ GW537.out | refine below_set ?_ GE548.out) | exact HB.out)) hb)
      replace HI541 := Aside0.mk (IsS164.below (by repeat (first | (with_reducible first | exact HI541.out | apply IsS164.alloc | apply IsS164.drewN | apply IsS164.drew | apply IsS164.set_1 | apply IsS164.set_2 | refine IsS164.far ?_ NB541_536.out _ | refine IsS164.far ?_ NB541_537.out _ | refine IsS164.far ?_ NB541_548.out _) | exact HI541.out)) hb)
      try clear hb
      refine hK.out _ _ ⟨cz_ BK548 0, cz_ BK548 1, cz_ BK548 2⟩ (fun hHeld => ?_)
      clear hK K
      refine nm_ (some 30) ?_
      refine px_ HT_ 5 25 63 ?_
      refine px_ HT_ 6 31 127 ?_
      refine px_ HT_ 7 32 255 ?_
      refine on_ HT_ 8 (some 8) (bv_ 11 511) (fun K hK => ?_)
      refine bz_ 8 #[.int .i64 0, .int .i64 0, .int .i64 0] 25 ?_
      intro gb560 hg w54 BK560 hb
      have GW560 := Aside0.mk ((by rw [hg]; exact (below_size (by repeat (first | (with_reducible first | exact HB.out | apply below_alloc | apply pw_below_drewN | apply below_drew1 | refine below_set ?_ (IsS164.ge HI541.out) | refine below_set ?_ GW536.out | refine below_set ?_ GW537.out | refine below_set ?_ GE548.out) | exact HB.out))) : w.heap.size ≤ gb560))
      have GE560 := Aside0.mk ((by rw [hg]; exact (below_size (by repeat (first | (with_reducible first | exact HB.out | apply below_alloc | apply pw_below_drewN | apply below_drew1 | refine below_set ?_ (IsS164.ge HI541.out) | refine below_set ?_ GW536.out | refine below_set ?_ GW537.out | refine below_set ?_ GE548.out) | exact HB.out))) : w.heap.size ≤ gb560))
      have NB536_560 := bm_ BK536 hg
      have NB560_536 := bn_ BK536 hg
      have NB537_560 := bm_ BK537 hg
      have NB560_537 := bn_ BK537 hg
      have NB548_560 := bm_ BK548 hg
      have NB560_548 := bn_ BK548 hg
      have NB541_560 := Aside0.mk ((by rw [hg]; exact Nat.ne_of_lt (IsS164.lt (show IsS164 w _ g541 t538 t554 t555 from by repeat (first | (with_reducible first | exact HI541.out | apply IsS164.alloc | apply IsS164.drewN | apply IsS164.drew | apply IsS164.set_1 | apply IsS164.set_2 | refine IsS164.far ?_ NB541_536.out _ | refine IsS164.far ?_ NB541_537.out _ | refine IsS164.far ?_ NB541_548.out _) | exact HI541.out))) : g541 ≠ gb560))
      have NB560_541 := Aside0.mk ((by rw [hg]; exact Nat.ne_of_gt (IsS164.lt (show IsS164 w _ g541 t538 t554 t555 from by repeat (first | (with_reducible first | exact HI541.out | apply IsS164.alloc | apply IsS164.drewN | apply IsS164.drew | apply IsS164.set_1 | apply IsS164.set_2 | refine IsS164.far ?_ NB541_536.out _ | refine IsS164.far ?_ NB541_537.out _ | refine IsS164.far ?_ NB541_548.out _) | exact HI541.out))) : gb560 ≠ g541))
      replace BK536 := bb_ BK536 hb
      replace BK537 := bb_ BK537 hb
      replace BK548 := bb_ BK548 hb
      replace HB := Aside0.mk (below_step (by repeat (first | (with_reducible first | exact HB.out | apply below_alloc | apply pw_below_drewN | apply below_drew1 | refine below_set ?_ (IsS164.ge HI541.out) | refine below_set ?_ GW536.out | refine below_set ?_ GW537.out | refine below_set ?_ GE548.out) | exact HB.out)) hb)
      replace HI541 := Aside0.mk (IsS164.below (by repeat (first | (with_reducible first | exact HI541.out | apply IsS164.alloc | apply IsS164.drewN | apply IsS164.drew | apply IsS164.set_1 | apply IsS164.set_2 | refine IsS164.far ?_ NB541_536.out _ | refine IsS164.far ?_ NB541_537.out _ | refine IsS164.far ?_ NB541_548.out _) | exact HI541.out)) hb)
      clear hb hg
      refine hK.out _ _ ⟨cz_ BK548 0, cz_ BK548 1, cz_ BK548 2⟩ (fun hHeld => ?_)
      clear hK K
      refine nm_ (some 8) ?_
      exact norm_ (by simp only [putAll, Act.put, lstS, lstZ, lstC]) (hCont (gb560) _ ⟨hHeld, (bl_ BK536).out, (bl_ BK537).out, (bl_ BK548).out, (bl_ BK560).out, GW560.out, GE560.out, NB541_560.out, NB560_541.out, NB536_560.out, NB560_536.out, NB537_560.out, NB560_537.out, NB548_560.out, NB560_548.out, (by repeat (first | (with_reducible first | exact HI541.out | apply IsS164.alloc | apply IsS164.drewN | apply IsS164.drew | apply IsS164.set_1 | apply IsS164.set_2 | refine IsS164.far ?_ NB541_536.out _ | refine IsS164.far ?_ NB541_537.out _ | refine IsS164.far ?_ NB541_548.out _ | refine IsS164.far ?_ NB541_560.out _) | exact HI541.out)), (by repeat (first | (with_reducible first | exact HB.out | apply below_alloc | apply pw_below_drewN | apply below_drew1 | refine below_set ?_ (IsS164.ge HI541.out) | refine below_set ?_ GW536.out | refine below_set ?_ GW537.out | refine below_set ?_ GE548.out | refine below_set ?_ GE560.out) | exact HB.out))⟩)
     skip
     refine bz_ 8 #[.int .i64 0, .int .i64 0, .int .i64 0] 25 ?_
     intro gb560 hg w53 BK560 hb
     have GW560 := Aside0.mk ((by rw [hg]; exact (below_size (by repeat (first | (with_reducible first | exact HB.out | apply below_alloc | apply pw_below_drewN | apply below_drew1 | refine below_set ?_ (IsS164.ge HI541.out) | refine below_set ?_ GW536.out | refine below_set ?_ GW537.out | refine below_set ?_ GE548.out) | exact HB.out))) : w.heap.size ≤ gb560))
     have GE560 := Aside0.mk ((by rw [hg]; exact (below_size (by repeat (first | (with_reducible first | exact HB.out | apply below_alloc | apply pw_below_drewN | apply below_drew1 | refine below_set ?_ (IsS164.ge HI541.out) | refine below_set ?_ GW536.out | refine below_set ?_ GW537.out | refine below_set ?_ GE548.out) | exact HB.out))) : w.heap.size ≤ gb560))
     have NB536_560 := bm_ BK536 hg
     have NB560_536 := bn_ BK536 hg
     have NB537_560 := bm_ BK537 hg
     have NB560_537 := bn_ BK537 hg
     have NB548_560 := bm_ BK548 hg
     have NB560_548 := bn_ BK548 hg
     have NB541_560 := Aside0.mk ((by rw [hg]; exact Nat.ne_of_lt (IsS164.lt (show IsS164 w _ g541 t538 t554 t555 from by repeat (first | (with_reducible first | exact HI541.out | apply IsS164.alloc | apply IsS164.drewN | apply IsS164.drew | apply IsS164.set_1 | apply IsS164.set_2 | refine IsS164.far ?_ NB541_536.out _ | refine IsS164.far ?_ NB541_537.out _ | refine IsS164.far ?_ NB541_548.out _) | exact HI541.out))) : g541 ≠ gb560))
     have NB560_541 := Aside0.mk ((by rw [hg]; exact Nat.ne_of_gt (IsS164.lt (show IsS164 w _ g541 t538 t554 t555 from by repeat (first | (with_reducible first | exact HI541.out | apply IsS164.alloc | apply IsS164.drewN | apply IsS164.drew | apply IsS164.set_1 | apply IsS164.set_2 | refine IsS164.far ?_ NB541_536.out _ | refine IsS164.far ?_ NB541_537.out _ | refine IsS164.far ?_ NB541_548.out _) | exact HI541.out))) : gb560 ≠ g541))
     replace BK536 := bb_ BK536 hb
     replace BK537 := bb_ BK537 hb
     replace BK548 := bb_ BK548 hb
     replace HB := Aside0.mk (below_step (by repeat (first | (with_reducible first | exact HB.out | apply below_alloc | apply pw_below_drewN | apply below_drew1 | refine below_set ?_ (IsS164.ge HI541.out) | refine below_set ?_ GW536.out | refine below_set ?_ GW537.out | refine below_set ?_ GE548.out) | exact HB.out)) hb)
     replace HI541 := Aside0.mk (IsS164.below (by repeat (first | (with_reducible first | exact HI541.out | apply IsS164.alloc | apply IsS164.drewN | apply IsS164.drew | apply IsS164.set_1 | apply IsS164.set_2 | refine IsS164.far ?_ NB541_536.out _ | refine IsS164.far ?_ NB541_537.out _ | refine IsS164.far ?_ NB541_548.out _) | exact HI541.out)) hb)
     clear hb hg
     refine hK.out _ _ ⟨cz_ BK548 0, cz_ BK548 1, cz_ BK548 2⟩ (fun hHeld => ?_)
     clear hK K
     refine nm_ (some 8) ?_
     refine on_ HT_ 4 (some 30) (bv_ 11 287) (fun K hK => ?_)
     refine gs_ Try.func114 #[.int .i64 t542, .agg #[.int .i64 t543, .int .i64 t544, .int .i64 t545], .int .i64 t553] ?_
     with_reducible refine (spec_l07Ball.calls kj3 t542 t543 t544 t545 t553 t556 t557 t558 false _ A30.out).mono ?_
     rintro e w54 ⟨rfl, hb⟩
     refine ⟨_, rfl, ?_⟩
     replace BK536 := bb_ BK536 hb
     replace BK537 := bb_ BK537 hb
     replace BK548 := bb_ BK548 hb
     replace BK560 := bb_ BK560 hb
     replace HB := Aside0.mk (below_step (by repeat (first | (with_reducible first | exact HB.out | apply below_alloc | apply pw_below_drewN | apply below_drew1 | refine below_set ?_ (IsS164.ge HI541.out) | refine below_set ?_ GW536.out | refine below_set ?_ GW537.out | refine below_set ?_ GE548.out | refine below_set ?_ GE560.out) | exact HB.out)) hb)
     replace HI541 := Aside0.mk (IsS164.below (by repeat (first | (with_reducible first | exact HI541.out | apply IsS164.alloc | apply IsS164.drewN | apply IsS164.drew | apply IsS164.set_1 | apply IsS164.set_2 | refine IsS164.far ?_ NB541_536.out _ | refine IsS164.far ?_ NB541_537.out _ | refine IsS164.far ?_ NB541_548.out _ | refine IsS164.far ?_ NB541_560.out _) | exact HI541.out)) hb)
     try clear hb
     refine hK.out _ _ ⟨cz_ BK548 0, cz_ BK548 1, cz_ BK548 2⟩ (fun hHeld => ?_)
     clear hK K
     refine nm_ (some 30) ?_
     refine px_ HT_ 5 25 319 ?_
     refine px_ HT_ 6 31 383 ?_
     refine px_ HT_ 7 32 511 ?_
     exact norm_ (by simp only [putAll, Act.put, lstS, lstZ, lstC]) (hCont (gb560) _ ⟨hHeld, (bl_ BK536).out, (bl_ BK537).out, (bl_ BK548).out, (bl_ BK560).out, GW560.out, GE560.out, NB541_560.out, NB560_541.out, NB536_560.out, NB560_536.out, NB537_560.out, NB560_537.out, NB548_560.out, NB560_548.out, (by repeat (first | (with_reducible first | exact HI541.out | apply IsS164.alloc | apply IsS164.drewN | apply IsS164.drew | apply IsS164.set_1 | apply IsS164.set_2 | refine IsS164.far ?_ NB541_536.out _ | refine IsS164.far ?_ NB541_537.out _ | refine IsS164.far ?_ NB541_548.out _ | refine IsS164.far ?_ NB541_560.out _) | exact HI541.out)), (by repeat (first | (with_reducible first | exact HB.out | apply below_alloc | apply pw_below_drewN | apply below_drew1 | refine below_set ?_ (IsS164.ge HI541.out) | refine below_set ?_ GW536.out | refine below_set ?_ GW537.out | refine below_set ?_ GE548.out | refine below_set ?_ GE560.out) | exact HB.out))⟩)
    skip
    refine bz_ 8 #[.int .i64 0, .int .i64 0, .int .i64 0] 25 ?_
    intro gb560 hg w52 BK560 hb
    have GW560 := Aside0.mk ((by rw [hg]; exact (below_size (by repeat (first | (with_reducible first | exact HB.out | apply below_alloc | apply pw_below_drewN | apply below_drew1 | refine below_set ?_ (IsS164.ge HI541.out) | refine below_set ?_ GW536.out | refine below_set ?_ GW537.out | refine below_set ?_ GE548.out) | exact HB.out))) : w.heap.size ≤ gb560))
    have GE560 := Aside0.mk ((by rw [hg]; exact (below_size (by repeat (first | (with_reducible first | exact HB.out | apply below_alloc | apply pw_below_drewN | apply below_drew1 | refine below_set ?_ (IsS164.ge HI541.out) | refine below_set ?_ GW536.out | refine below_set ?_ GW537.out | refine below_set ?_ GE548.out) | exact HB.out))) : w.heap.size ≤ gb560))
    have NB536_560 := bm_ BK536 hg
    have NB560_536 := bn_ BK536 hg
    have NB537_560 := bm_ BK537 hg
    have NB560_537 := bn_ BK537 hg
    have NB548_560 := bm_ BK548 hg
    have NB560_548 := bn_ BK548 hg
    have NB541_560 := Aside0.mk ((by rw [hg]; exact Nat.ne_of_lt (IsS164.lt (show IsS164 w _ g541 t538 x542001_3 x542002_3 from by repeat (first | (with_reducible first | exact HI541.out | apply IsS164.alloc | apply IsS164.drewN | apply IsS164.drew | apply IsS164.set_1 | apply IsS164.set_2 | refine IsS164.far ?_ NB541_536.out _ | refine IsS164.far ?_ NB541_537.out _ | refine IsS164.far ?_ NB541_548.out _) | exact HI541.out))) : g541 ≠ gb560))
    have NB560_541 := Aside0.mk ((by rw [hg]; exact Nat.ne_of_gt (IsS164.lt (show IsS164 w _ g541 t538 x542001_3 x542002_3 from by repeat (first | (with_reducible first | exact HI541.out | apply IsS164.alloc | apply IsS164.drewN | apply IsS164.drew | apply IsS164.set_1 | apply IsS164.set_2 | refine IsS164.far ?_ NB541_536.out _ | refine IsS164.far ?_ NB541_537.out _ | refine IsS164.far ?_ NB541_548.out _) | exact HI541.out))) : gb560 ≠ g541))
    replace BK536 := bb_ BK536 hb
    replace BK537 := bb_ BK537 hb
    replace BK548 := bb_ BK548 hb
    replace HB := Aside0.mk (below_step (by repeat (first | (with_reducible first | exact HB.out | apply below_alloc | apply pw_below_drewN | apply below_drew1 | refine below_set ?_ (IsS164.ge HI541.out) | refine below_set ?_ GW536.out | refine below_set ?_ GW537.out | refine below_set ?_ GE548.out) | exact HB.out)) hb)
    replace HI541 := Aside0.mk (IsS164.below (by repeat (first | (with_reducible first | exact HI541.out | apply IsS164.alloc | apply IsS164.drewN | apply IsS164.drew | apply IsS164.set_1 | apply IsS164.set_2 | refine IsS164.far ?_ NB541_536.out _ | refine IsS164.far ?_ NB541_537.out _ | refine IsS164.far ?_ NB541_548.out _) | exact HI541.out)) hb)
    clear hb hg
    refine hK.out _ _ ⟨cz_ BK548 0, cz_ BK548 1, cz_ BK548 2⟩ (fun hHeld => ?_)
    clear hK K
    refine nm_ (some 8) ?_
    refine on_ HT_ 3 (some 29) (bv_ 11 271) (fun K hK => ?_)
    refine gs_ Try.func108 #[.pointer (some ⟨g541, 0, none⟩), .int .i64 40] ?_
    with_reducible refine (spec_l01Next.calls g541 t538 x542001_3 x542002_3 40 t553 t554 t555 w _ ?side1 ?side2 A29.out).mono ?_
    (case side1 => repeat (first | (with_reducible first | exact HI541.out | apply IsS164.alloc | apply IsS164.drewN | apply IsS164.drew | apply IsS164.set_1 | apply IsS164.set_2 | refine IsS164.far ?_ NB541_536.out _ | refine IsS164.far ?_ NB541_537.out _ | refine IsS164.far ?_ NB541_548.out _ | refine IsS164.far ?_ NB541_560.out _) | exact HI541.out))
    (case side2 => repeat (first | (with_reducible first | exact HB.out | apply below_alloc | apply pw_below_drewN | apply below_drew1 | refine below_set ?_ (IsS164.ge HI541.out) | refine below_set ?_ GW536.out | refine below_set ?_ GW537.out | refine below_set ?_ GE548.out | refine below_set ?_ GE560.out) | exact HB.out))
    rintro e w53 ⟨rfl, hi, hb, hk⟩
    refine ⟨_, rfl, ?_⟩
    replace BK536 := Aside0.mk (KeepBut.blk hk (g' := gb536) (o := .cells #[.int .i64 0, .int .i64 0, .int .i64 0] 25 (0, 0)) (bl_ BK536).out NB536_541.out (by simp))
    replace BK537 := Aside0.mk (KeepBut.blk hk (g' := gb537) (o := .cells #[.int .i64 0, .int .i64 0, .int .i64 0] 25 (0, 0)) (bl_ BK537).out NB537_541.out (by simp))
    replace BK548 := Aside0.mk (KeepBut.blk hk (g' := gb548) (o := .cells #[.int .i64 t543, .int .i64 t544, .int .i64 t545] 25 (0, 0)) (bl_ BK548).out NB548_541.out (by simp))
    replace BK560 := Aside0.mk (KeepBut.blk hk (g' := gb560) (o := .cells #[.int .i64 0, .int .i64 0, .int .i64 0] 25 (0, 0)) (bl_ BK560).out NB560_541.out (by simp))
    replace HB := Aside0.mk (hb)
    replace HI541 := Aside0.mk (hi)
    try clear hb
    try clear hk
    try clear hi
    refine hK.out _ _ ⟨cz_ BK548 0, cz_ BK548 1, cz_ BK548 2⟩ (fun hHeld => ?_)
    clear hK K
    refine nm_ (some 29) ?_
    refine on_ HT_ 4 (some 30) (bv_ 11 287) (fun K hK => ?_)
    refine gs_ Try.func114 #[.int .i64 t542, .agg #[.int .i64 t543, .int .i64 t544, .int .i64 t545], .int .i64 t553] ?_
    with_reducible refine (spec_l07Ball.calls kj3 t542 t543 t544 t545 t553 t556 t557 t558 false _ A30.out).mono ?_
    rintro e w54 ⟨rfl, hb⟩
    refine ⟨_, rfl, ?_⟩
    replace BK536 := bb_ BK536 hb
    replace BK537 := bb_ BK537 hb
    replace BK548 := bb_ BK548 hb
    replace BK560 := bb_ BK560 hb
    replace HB := Aside0.mk (below_step (by repeat (first | (with_reducible first | exact HB.out | apply below_alloc | apply pw_below_drewN | apply below_drew1 | refine below_set ?_ (IsS164.ge HI541.out) | refine below_set ?_ GW536.out | refine below_set ?_ GW537.out | refine below_set ?_ GE548.out | refine below_set ?_ GE560.out) | exact HB.out)) hb)
    replace HI541 := Aside0.mk (IsS164.below (by repeat (first | (with_reducible first | exact HI541.out | apply IsS164.alloc | apply IsS164.drewN | apply IsS164.drew | apply IsS164.set_1 | apply IsS164.set_2 | refine IsS164.far ?_ NB541_536.out _ | refine IsS164.far ?_ NB541_537.out _ | refine IsS164.far ?_ NB541_548.out _ | refine IsS164.far ?_ NB541_560.out _) | exact HI541.out)) hb)
    try clear hb
    refine hK.out _ _ ⟨cz_ BK548 0, cz_ BK548 1, cz_ BK548 2⟩ (fun hHeld => ?_)
    clear hK K
    refine nm_ (some 30) ?_
    refine px_ HT_ 5 25 319 ?_
    refine px_ HT_ 6 31 383 ?_
    refine px_ HT_ 7 32 511 ?_
    exact norm_ (by simp only [putAll, Act.put, lstS, lstZ, lstC]) (hCont (gb560) _ ⟨hHeld, (bl_ BK536).out, (bl_ BK537).out, (bl_ BK548).out, (bl_ BK560).out, GW560.out, GE560.out, NB541_560.out, NB560_541.out, NB536_560.out, NB560_536.out, NB537_560.out, NB560_537.out, NB548_560.out, NB560_548.out, (by repeat (first | (with_reducible first | exact HI541.out | apply IsS164.alloc | apply IsS164.drewN | apply IsS164.drew | apply IsS164.set_1 | apply IsS164.set_2 | refine IsS164.far ?_ NB541_536.out _ | refine IsS164.far ?_ NB541_537.out _ | refine IsS164.far ?_ NB541_548.out _ | refine IsS164.far ?_ NB541_560.out _) | exact HI541.out)), (by repeat (first | (with_reducible first | exact HB.out | apply below_alloc | apply pw_below_drewN | apply below_drew1 | refine below_set ?_ (IsS164.ge HI541.out) | refine below_set ?_ GW536.out | refine below_set ?_ GW537.out | refine below_set ?_ GE548.out | refine below_set ?_ GE560.out) | exact HB.out))⟩)
   rintro gb560 w55 ⟨hS_, h0_, h1_, h2_, h3_, h4_, h5_, h6_, h7_, h8_, h9_, h10_, h11_, h12_, h13_, h14_, h15_⟩
   clear BK536 BK537 BK548 HI541 HB
   have BK536 := Aside0.mk h0_
   have BK537 := Aside0.mk h1_
   have BK548 := Aside0.mk h2_
   have BK560 := Aside0.mk h3_
   have GW560 := Aside0.mk h4_
   have GE560 := Aside0.mk h5_
   have NB541_560 := Aside0.mk h6_
   have NB560_541 := Aside0.mk h7_
   have NB536_560 := Aside0.mk h8_
   have NB560_536 := Aside0.mk h9_
   have NB537_560 := Aside0.mk h10_
   have NB560_537 := Aside0.mk h11_
   have NB548_560 := Aside0.mk h12_
   have NB560_548 := Aside0.mk h13_
   have HI541 := Aside0.mk h14_
   have HB := Aside0.mk h15_
   clear h0_ h1_ h2_ h3_ h4_ h5_ h6_ h7_ h8_ h9_ h10_ h11_ h12_ h13_ h14_ h15_
   have hHeld : w55.cell? ⟨gb548, 0, none⟩ = some (.int .i64 t543) ∧ w55.cell? ⟨gb548, 1, none⟩ = some (.int .i64 t544) ∧ w55.cell? ⟨gb548, 2, none⟩ = some (.int .i64 t545) := hS_
   refine norm_ (a' := ?_) ?_ ?_
   rotate_left
   ·simp only [putAll, Act.put, lstS, lstZ, lstC]
    rfl
   refine on_ HT_ 9 none (bv_ 11 1023) (fun K hK => ?_)
   have hs56 : w55.cell? ⟨gb560, 0, none⟩ = some (.int .i64 0) := (blk_cell BK560.out 0).trans rfl
   have hfs56 := blk_frozen BK560.out 0
   have hns56_0 := NB536_560.out
   have hns56_1 := NB537_560.out
   have hns56_2 := NB548_560.out
   have hms56_0 := NB560_536.out
   have hms56_1 := NB560_537.out
   have hms56_2 := NB560_548.out
   have hs57 : w55.cell? ⟨gb560, 1, none⟩ = some (.int .i64 0) := (blk_cell BK560.out 1).trans rfl
   have hfs57 := blk_frozen BK560.out 1
   have hns57_0 := NB536_560.out
   have hns57_1 := NB537_560.out
   have hns57_2 := NB548_560.out
   have hms57_0 := NB560_536.out
   have hms57_1 := NB560_537.out
   have hms57_2 := NB560_548.out
   have hs58 : w55.cell? ⟨gb560, 2, none⟩ = some (.int .i64 0) := (blk_cell BK560.out 2).trans rfl
   have hfs58 := blk_frozen BK560.out 2
   have hns58_0 := NB536_560.out
   have hns58_1 := NB537_560.out
   have hns58_2 := NB548_560.out
   have hms58_0 := NB560_536.out
   have hms58_1 := NB560_537.out
   have hms58_2 := NB560_548.out
   refine skip_ (w1 := ?_) (by rfl) rfl ?_ ?_
   rotate_left
   ·go_simp
    rfl
   refine hK.out _ _ ⟨(cg_ NB548_560 ((cg_ NB548_560 ((cg_ NB548_560 (hHeld.1)))))), (cg_ NB548_560 ((cg_ NB548_560 ((cg_ NB548_560 (hHeld.2.1)))))), (cg_ NB548_560 ((cg_ NB548_560 ((cg_ NB548_560 (hHeld.2.2))))))⟩ (fun hHeld => ?_)
   clear hK K
   refine px_ HT_ 10 9 2047 ?_
   refine done_ (done_of HT_.out (by kernel_rfl)) ?_
   try go_wp2
   have n0_ : Aside0 ((((w55.setCell ⟨gb560, 0, none⟩ (.int .i64 t556)).setCell ⟨gb560, 1, none⟩ (.int .i64 t557)).setCell ⟨gb560, 2, none⟩ (.int .i64 t558)).heap[gb536]? = some (.cells #[.int .i64 0, .int .i64 0, .int .i64 0] 25 (0, 0))) := fl_ BK536 NB536_560
   have n1_ : Aside0 ((((w55.setCell ⟨gb560, 0, none⟩ (.int .i64 t556)).setCell ⟨gb560, 1, none⟩ (.int .i64 t557)).setCell ⟨gb560, 2, none⟩ (.int .i64 t558)).heap[gb537]? = some (.cells #[.int .i64 0, .int .i64 0, .int .i64 0] 25 (0, 0))) := fl_ BK537 NB537_560
   have n2_ : Aside0 ((((w55.setCell ⟨gb560, 0, none⟩ (.int .i64 t556)).setCell ⟨gb560, 1, none⟩ (.int .i64 t557)).setCell ⟨gb560, 2, none⟩ (.int .i64 t558)).heap[gb548]? = some (.cells #[.int .i64 t543, .int .i64 t544, .int .i64 t545] 25 (0, 0))) := fl_ BK548 NB548_560
   have n3_ : Aside0 ((((w55.setCell ⟨gb560, 0, none⟩ (.int .i64 t556)).setCell ⟨gb560, 1, none⟩ (.int .i64 t557)).setCell ⟨gb560, 2, none⟩ (.int .i64 t558)).heap[gb560]? = some (.cells #[.int .i64 t556, .int .i64 t557, .int .i64 t558] 25 (0, 0))) := bp_ BK560
   have n4_ : Aside0 (IsS164 w (((w55.setCell ⟨gb560, 0, none⟩ (.int .i64 t556)).setCell ⟨gb560, 1, none⟩ (.int .i64 t557)).setCell ⟨gb560, 2, none⟩ (.int .i64 t558)) g541 t538 t554 t555) := ⟨by repeat (first | (with_reducible first | exact HI541.out | apply IsS164.alloc | apply IsS164.drewN | apply IsS164.drew | apply IsS164.set_1 | apply IsS164.set_2 | refine IsS164.far ?_ NB541_536.out _ | refine IsS164.far ?_ NB541_537.out _ | refine IsS164.far ?_ NB541_548.out _ | refine IsS164.far ?_ NB541_560.out _) | exact HI541.out)⟩
   have n5_ : Aside0 (Below w.heap.size w (((w55.setCell ⟨gb560, 0, none⟩ (.int .i64 t556)).setCell ⟨gb560, 1, none⟩ (.int .i64 t557)).setCell ⟨gb560, 2, none⟩ (.int .i64 t558))) := ⟨by repeat (first | (with_reducible first | exact HB.out | apply below_alloc | apply pw_below_drewN | apply below_drew1 | refine below_set ?_ (IsS164.ge HI541.out) | refine below_set ?_ GW536.out | refine below_set ?_ GW537.out | refine below_set ?_ GE548.out | refine below_set ?_ GE560.out) | exact HB.out)⟩
   (try clear BK536)
   (try clear BK537)
   (try clear BK548)
   (try clear BK560)
   (try clear HI541)
   (try clear HB)
   generalize (((w55.setCell ⟨gb560, 0, none⟩ (.int .i64 t556)).setCell ⟨gb560, 1, none⟩ (.int .i64 t557)).setCell ⟨gb560, 2, none⟩ (.int .i64 t558)) = w59 at n0_ n1_ n2_ n3_ n4_ n5_ ⊢
   have BK536 := n0_
   have BK537 := n1_
   have BK548 := n2_
   have BK560 := n3_
   have HI541 := n4_
   have HB := n5_
   clear n0_ n1_ n2_ n3_ n4_ n5_
   replace BK536 := bd_ BK536
   replace BK537 := bd_ BK537
   replace BK548 := bd_ BK548
   replace BK560 := bd_ BK560
   replace HI541 := Aside0.mk (IsS164.drew HI541.out)
   replace HB := be_ HB
   refine start_ (n := 10) (S := fun w' => w'.cell? ⟨gb548, 0, none⟩ = some (.int .i64 t543) ∧ w'.cell? ⟨gb548, 1, none⟩ = some (.int .i64 t544) ∧ w'.cell? ⟨gb548, 2, none⟩ = some (.int .i64 t545)) (ds := []) (bv_ 10 0) (by kernel_rfl) rfl rfl ⟨cz_ BK548 0, cz_ BK548 1, cz_ BK548 2⟩ (fun hHeld => ?_); refine with_tabW spec_DrawPlaceOfBall.tab7 spec_DrawPlaceOfBall.bits7 (fun HT_ HW_ => ?_)
   generalize w59.drew = w60 at BK536 BK537 BK548 BK560 HI541 HB hHeld ⊢
   refine px_ HT_ 0 37 1 ?_
   refine px_ HT_ 2 39 5 ?_
   refine px_ HT_ 3 40 13 ?_
   refine px_ HT_ 4 41 29 ?_
   refine px_ HT_ 5 42 61 ?_
   refine ta_ HT_ HW_ 1 (some 38) (bv_ 10 63) hHeld ?_ (hy := by rintro w' ⟨s0, s1, s2⟩; go_simp; with_reducible rfl)
   refine on_ HT_ 6 (some 43) (bv_ 10 127) (fun K hK => ?_)
   refine gs_ Try.func124 #[.pointer (some ⟨g541, 0, none⟩), .int .i64 ji49] ?_ (hargs := by (try simp only [List.map_toArray, List.map_cons, List.map_nil]); first | done | (simp only [hji49]; rfl) | rfl | (simp only [List.length_drop, List.length_take]; rfl))
   with_reducible refine (spec_l01Draw.calls kj3 g541 t538 t554 t555 ji49 t561 t562 t563 t564 t565 w _ ?side1 ?side2 A50.out).mono ?_
   (case side1 => repeat (first | (with_reducible first | exact HI541.out | apply IsS164.alloc | apply IsS164.drewN | apply IsS164.drew | apply IsS164.set_1 | apply IsS164.set_2 | refine IsS164.far ?_ NB541_536.out _ | refine IsS164.far ?_ NB541_537.out _ | refine IsS164.far ?_ NB541_548.out _ | refine IsS164.far ?_ NB541_560.out _) | exact HI541.out))
   (case side2 => repeat (first | (with_reducible first | exact HB.out | apply below_alloc | apply pw_below_drewN | apply below_drew1 | refine below_set ?_ (IsS164.ge HI541.out) | refine below_set ?_ GW536.out | refine below_set ?_ GW537.out | refine below_set ?_ GE548.out | refine below_set ?_ GE560.out) | exact HB.out))
   rintro e w61 ⟨rfl, hi, hb, hk⟩
   refine ⟨_, rfl, ?_⟩
   replace BK536 := Aside0.mk (KeepBut.blk hk (g' := gb536) (o := .cells #[.int .i64 0, .int .i64 0, .int .i64 0] 25 (0, 0)) (bl_ BK536).out NB536_541.out (by simp))
   replace BK537 := Aside0.mk (KeepBut.blk hk (g' := gb537) (o := .cells #[.int .i64 0, .int .i64 0, .int .i64 0] 25 (0, 0)) (bl_ BK537).out NB537_541.out (by simp))
   replace BK548 := Aside0.mk (KeepBut.blk hk (g' := gb548) (o := .cells #[.int .i64 t543, .int .i64 t544, .int .i64 t545] 25 (0, 0)) (bl_ BK548).out NB548_541.out (by simp))
   replace BK560 := Aside0.mk (KeepBut.blk hk (g' := gb560) (o := .cells #[.int .i64 t556, .int .i64 t557, .int .i64 t558] 25 (0, 0)) (bl_ BK560).out NB560_541.out (by simp))
   replace HB := Aside0.mk (hb)
   replace HI541 := Aside0.mk (hi)
   try clear hb
   try clear hk
   try clear hi
   refine hK.out _ _ ⟨cz_ BK548 0, cz_ BK548 1, cz_ BK548 2⟩ (fun hHeld => ?_)
   clear hK K
   refine nm_ (some 43) ?_
   refine px_ HT_ 7 2 255 ?_
   refine on_ HT_ 8 none (bv_ 10 511) (fun K hK => ?_)
   have hs62 : w61.cell? ⟨gb536, 0, none⟩ = some (.int .i64 0) := (blk_cell BK536.out 0).trans rfl
   have hfs62 := blk_frozen BK536.out 0
   have hns62_1 := NB537_536.out
   have hns62_2 := NB548_536.out
   have hns62_3 := NB560_536.out
   have hms62_1 := NB536_537.out
   have hms62_2 := NB536_548.out
   have hms62_3 := NB536_560.out
   have hs63 : w61.cell? ⟨gb536, 1, none⟩ = some (.int .i64 0) := (blk_cell BK536.out 1).trans rfl
   have hfs63 := blk_frozen BK536.out 1
   have hns63_1 := NB537_536.out
   have hns63_2 := NB548_536.out
   have hns63_3 := NB560_536.out
   have hms63_1 := NB536_537.out
   have hms63_2 := NB536_548.out
   have hms63_3 := NB536_560.out
   have hs64 : w61.cell? ⟨gb536, 2, none⟩ = some (.int .i64 0) := (blk_cell BK536.out 2).trans rfl
   have hfs64 := blk_frozen BK536.out 2
   have hns64_1 := NB537_536.out
   have hns64_2 := NB548_536.out
   have hns64_3 := NB560_536.out
   have hms64_1 := NB536_537.out
   have hms64_2 := NB536_548.out
   have hms64_3 := NB536_560.out
   refine skip_ (w1 := ?_) (by rfl) rfl ?_ ?_
   rotate_left
   ·go_simp
    rfl
   refine hK.out _ _ ⟨(cg_ NB548_536 ((cg_ NB548_536 ((cg_ NB548_536 (hHeld.1)))))), (cg_ NB548_536 ((cg_ NB548_536 ((cg_ NB548_536 (hHeld.2.1)))))), (cg_ NB548_536 ((cg_ NB548_536 ((cg_ NB548_536 (hHeld.2.2))))))⟩ (fun hHeld => ?_)
   clear hK K
   refine on_ HT_ 9 none (bv_ 10 1023) (fun K hK => ?_)
   have hs65 : w61.cell? ⟨gb537, 0, none⟩ = some (.int .i64 0) := (blk_cell BK537.out 0).trans rfl
   have hfs65 := blk_frozen BK537.out 0
   have hns65_0 := NB536_537.out
   have hns65_2 := NB548_537.out
   have hns65_3 := NB560_537.out
   have hms65_0 := NB537_536.out
   have hms65_2 := NB537_548.out
   have hms65_3 := NB537_560.out
   have hs66 : w61.cell? ⟨gb537, 1, none⟩ = some (.int .i64 0) := (blk_cell BK537.out 1).trans rfl
   have hfs66 := blk_frozen BK537.out 1
   have hns66_0 := NB536_537.out
   have hns66_2 := NB548_537.out
   have hns66_3 := NB560_537.out
   have hms66_0 := NB537_536.out
   have hms66_2 := NB537_548.out
   have hms66_3 := NB537_560.out
   have hs67 : w61.cell? ⟨gb537, 2, none⟩ = some (.int .i64 0) := (blk_cell BK537.out 2).trans rfl
   have hfs67 := blk_frozen BK537.out 2
   have hns67_0 := NB536_537.out
   have hns67_2 := NB548_537.out
   have hns67_3 := NB560_537.out
   have hms67_0 := NB537_536.out
   have hms67_2 := NB537_548.out
   have hms67_3 := NB537_560.out
   refine skip_ (w1 := ?_) (by rfl) rfl ?_ ?_
   rotate_left
   ·go_simp
    rfl
   refine hK.out _ _ ⟨(cg_ NB548_537 ((cg_ NB548_537 ((cg_ NB548_537 (hHeld.1)))))), (cg_ NB548_537 ((cg_ NB548_537 ((cg_ NB548_537 (hHeld.2.1)))))), (cg_ NB548_537 ((cg_ NB548_537 ((cg_ NB548_537 (hHeld.2.2))))))⟩ (fun hHeld => ?_)
   clear hK K
   refine done_ (done_of HT_.out (by kernel_rfl)) ?_
   try go_wp2
   refine bodyPost_ret (results_list (rs := [.tmp 2, .cell 3 25, .cell 4 25]) rfl (by simp) (.tmp (.cell gb536 25 #[.int .i64 t543, .int .i64 t544, .int .i64 t545] (0, 0) _ rfl (bp_ BK536).out Try.underlying25 rfl (by kernel_rfl) (.cell gb537 25 #[.int .i64 t561, .int .i64 t562, .int .i64 t563] (0, 0) _ rfl (bp_ BK537).out Try.underlying25 rfl (by kernel_rfl) .nil)))) rfl ?_
   exact ⟨by first | rfl | (simp [errW_none, errW_some] <;> rfl) | (simp only [← hji48, ← hji49]; first | rfl | (simp [errW_none, errW_some] <;> rfl)) | (simp [*, errW_none, errW_some] <;> rfl), by repeat (first | (with_reducible first | exact HB.out | apply below_alloc | apply pw_below_drewN | apply below_drew1 | refine below_set ?_ (IsS164.ge HI541.out) | refine below_set ?_ GW536.out | refine below_set ?_ GW537.out | refine below_set ?_ GE548.out | refine below_set ?_ GE560.out) | exact HB.out)⟩
  obtain ⟨ji68, hji68⟩ : ∃ j_ : Int, (mx t542 2) = j_ := ⟨_, rfl⟩
  replace H : ((spec_l01Draw.f kj3 t538 x542001_3 x542002_3 (mn (ji68) 3)).bind fun bt566 => (some (t542, t543, t544, t545, bt566.1, bt566.2.1, bt566.2.2.1))) = some (r1, r2, r3, r4, r5, r6, r7) := by first | (rw [hji68] at H; exact H) | (simp only [hji68] at H ⊢; exact H)
  have hji68_ : (if t542 < 2 then 2 else t542) = ji68 := hji68
  obtain ⟨ji69, hji69⟩ : ∃ j_ : Int, (mn (ji68) 3) = j_ := ⟨_, rfl⟩
  replace H : ((spec_l01Draw.f kj3 t538 x542001_3 x542002_3 (ji69)).bind fun bt566 => (some (t542, t543, t544, t545, bt566.1, bt566.2.1, bt566.2.2.1))) = some (r1, r2, r3, r4, r5, r6, r7) := by first | (rw [hji69] at H; exact H) | (simp only [hji69] at H ⊢; exact H)
  have hji69_ : (if 3 < (ji68) then 3 else (ji68)) = ji69 := hji69
  replace H := oc_ H
  obtain ⟨⟨t566, t567, t568, t569, t570⟩, A70, H⟩ := H
  simp only [Option.some.injEq, Prod.mk.injEq] at H
  obtain ⟨rfl, rfl, rfl, rfl, rfl, rfl, rfl⟩ := H
  try go_wp2
  replace BK536 := bd_ BK536
  replace BK537 := bd_ BK537
  replace BK548 := bd_ BK548
  replace HI541 := Aside0.mk (IsS164.drew HI541.out)
  replace HB := be_ HB
  refine start_ (n := 10) (S := fun w' => w'.cell? ⟨gb548, 0, none⟩ = some (.int .i64 t543) ∧ w'.cell? ⟨gb548, 1, none⟩ = some (.int .i64 t544) ∧ w'.cell? ⟨gb548, 2, none⟩ = some (.int .i64 t545)) (ds := []) (bv_ 10 0) (by kernel_rfl) rfl rfl ⟨cz_ BK548 0, cz_ BK548 1, cz_ BK548 2⟩ (fun hHeld => ?_); refine with_tabW spec_DrawPlaceOfBall.tab7 spec_DrawPlaceOfBall.bits7 (fun HT_ HW_ => ?_)
  generalize wc.drew = w71 at BK536 BK537 BK548 HI541 HB hHeld ⊢
  refine px_ HT_ 0 37 1 ?_
  refine px_ HT_ 2 39 5 ?_
  refine px_ HT_ 3 40 13 ?_
  refine px_ HT_ 4 41 29 ?_
  refine px_ HT_ 5 42 61 ?_
  refine ta_ HT_ HW_ 1 (some 38) (bv_ 10 63) hHeld ?_ (hy := by rintro w' ⟨s0, s1, s2⟩; go_simp; with_reducible rfl)
  refine on_ HT_ 6 (some 43) (bv_ 10 127) (fun K hK => ?_)
  refine gs_ Try.func124 #[.pointer (some ⟨g541, 0, none⟩), .int .i64 ji69] ?_ (hargs := by (try simp only [List.map_toArray, List.map_cons, List.map_nil]); first | done | (simp only [hji69]; rfl) | rfl | (simp only [List.length_drop, List.length_take]; rfl))
  with_reducible refine (spec_l01Draw.calls kj3 g541 t538 x542001_3 x542002_3 ji69 t566 t567 t568 t569 t570 w _ ?side1 ?side2 A70.out).mono ?_
  (case side1 => repeat (first | (with_reducible first | exact HI541.out | apply IsS164.alloc | apply IsS164.drewN | apply IsS164.drew | apply IsS164.set_1 | apply IsS164.set_2 | refine IsS164.far ?_ NB541_536.out _ | refine IsS164.far ?_ NB541_537.out _ | refine IsS164.far ?_ NB541_548.out _) | exact HI541.out))
  (case side2 => repeat (first | (with_reducible first | exact HB.out | apply below_alloc | apply pw_below_drewN | apply below_drew1 | refine below_set ?_ (IsS164.ge HI541.out) | refine below_set ?_ GW536.out | refine below_set ?_ GW537.out | refine below_set ?_ GE548.out) | exact HB.out))
  rintro e w72 ⟨rfl, hi, hb, hk⟩
  refine ⟨_, rfl, ?_⟩
  replace BK536 := Aside0.mk (KeepBut.blk hk (g' := gb536) (o := .cells #[.int .i64 0, .int .i64 0, .int .i64 0] 25 (0, 0)) (bl_ BK536).out NB536_541.out (by simp))
  replace BK537 := Aside0.mk (KeepBut.blk hk (g' := gb537) (o := .cells #[.int .i64 0, .int .i64 0, .int .i64 0] 25 (0, 0)) (bl_ BK537).out NB537_541.out (by simp))
  replace BK548 := Aside0.mk (KeepBut.blk hk (g' := gb548) (o := .cells #[.int .i64 t543, .int .i64 t544, .int .i64 t545] 25 (0, 0)) (bl_ BK548).out NB548_541.out (by simp))
  replace HB := Aside0.mk (hb)
  replace HI541 := Aside0.mk (hi)
  try clear hb
  try clear hk
  try clear hi
  refine hK.out _ _ ⟨cz_ BK548 0, cz_ BK548 1, cz_ BK548 2⟩ (fun hHeld => ?_)
  clear hK K
  refine nm_ (some 43) ?_
  refine px_ HT_ 7 2 255 ?_
  refine on_ HT_ 8 none (bv_ 10 511) (fun K hK => ?_)
  have hs73 : w72.cell? ⟨gb536, 0, none⟩ = some (.int .i64 0) := (blk_cell BK536.out 0).trans rfl
  have hfs73 := blk_frozen BK536.out 0
  have hns73_1 := NB537_536.out
  have hns73_2 := NB548_536.out
  have hms73_1 := NB536_537.out
  have hms73_2 := NB536_548.out
  have hs74 : w72.cell? ⟨gb536, 1, none⟩ = some (.int .i64 0) := (blk_cell BK536.out 1).trans rfl
  have hfs74 := blk_frozen BK536.out 1
  have hns74_1 := NB537_536.out
  have hns74_2 := NB548_536.out
  have hms74_1 := NB536_537.out
  have hms74_2 := NB536_548.out
  have hs75 : w72.cell? ⟨gb536, 2, none⟩ = some (.int .i64 0) := (blk_cell BK536.out 2).trans rfl
  have hfs75 := blk_frozen BK536.out 2
  have hns75_1 := NB537_536.out
  have hns75_2 := NB548_536.out
  have hms75_1 := NB536_537.out
  have hms75_2 := NB536_548.out
  refine skip_ (w1 := ?_) (by rfl) rfl ?_ ?_
  rotate_left
  ·go_simp
   rfl
  refine hK.out _ _ ⟨(cg_ NB548_536 ((cg_ NB548_536 ((cg_ NB548_536 (hHeld.1)))))), (cg_ NB548_536 ((cg_ NB548_536 ((cg_ NB548_536 (hHeld.2.1)))))), (cg_ NB548_536 ((cg_ NB548_536 ((cg_ NB548_536 (hHeld.2.2))))))⟩ (fun hHeld => ?_)
  clear hK K
  refine on_ HT_ 9 none (bv_ 10 1023) (fun K hK => ?_)
  have hs76 : w72.cell? ⟨gb537, 0, none⟩ = some (.int .i64 0) := (blk_cell BK537.out 0).trans rfl
  have hfs76 := blk_frozen BK537.out 0
  have hns76_0 := NB536_537.out
  have hns76_2 := NB548_537.out
  have hms76_0 := NB537_536.out
  have hms76_2 := NB537_548.out
  have hs77 : w72.cell? ⟨gb537, 1, none⟩ = some (.int .i64 0) := (blk_cell BK537.out 1).trans rfl
  have hfs77 := blk_frozen BK537.out 1
  have hns77_0 := NB536_537.out
  have hns77_2 := NB548_537.out
  have hms77_0 := NB537_536.out
  have hms77_2 := NB537_548.out
  have hs78 : w72.cell? ⟨gb537, 2, none⟩ = some (.int .i64 0) := (blk_cell BK537.out 2).trans rfl
  have hfs78 := blk_frozen BK537.out 2
  have hns78_0 := NB536_537.out
  have hns78_2 := NB548_537.out
  have hms78_0 := NB537_536.out
  have hms78_2 := NB537_548.out
  refine skip_ (w1 := ?_) (by rfl) rfl ?_ ?_
  rotate_left
  ·go_simp
   rfl
  refine hK.out _ _ ⟨(cg_ NB548_537 ((cg_ NB548_537 ((cg_ NB548_537 (hHeld.1)))))), (cg_ NB548_537 ((cg_ NB548_537 ((cg_ NB548_537 (hHeld.2.1)))))), (cg_ NB548_537 ((cg_ NB548_537 ((cg_ NB548_537 (hHeld.2.2))))))⟩ (fun hHeld => ?_)
  clear hK K
  refine done_ (done_of HT_.out (by kernel_rfl)) ?_
  try go_wp2
  refine bodyPost_ret (results_list (rs := [.tmp 2, .cell 3 25, .cell 4 25]) rfl (by simp) (.tmp (.cell gb536 25 #[.int .i64 t543, .int .i64 t544, .int .i64 t545] (0, 0) _ rfl (bp_ BK536).out Try.underlying25 rfl (by kernel_rfl) (.cell gb537 25 #[.int .i64 t566, .int .i64 t567, .int .i64 t568] (0, 0) _ rfl (bp_ BK537).out Try.underlying25 rfl (by kernel_rfl) .nil)))) rfl ?_
  exact ⟨by first | rfl | (simp [errW_none, errW_some] <;> rfl) | (simp only [← hji68, ← hji69]; first | rfl | (simp [errW_none, errW_some] <;> rfl)) | (simp [*, errW_none, errW_some] <;> rfl), by repeat (first | (with_reducible first | exact HB.out | apply below_alloc | apply pw_below_drewN | apply below_drew1 | refine below_set ?_ (IsS164.ge HI541.out) | refine below_set ?_ GW536.out | refine below_set ?_ GW537.out | refine below_set ?_ GE548.out) | exact HB.out)⟩
end Go.Proofs.Ytgoeelhiffbjlaa.QP
