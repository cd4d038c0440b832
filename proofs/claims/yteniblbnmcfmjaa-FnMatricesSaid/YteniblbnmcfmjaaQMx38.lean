import Derived.Test.YteniblbnmcfmjaaQMx6
import Derived.Test.YteniblbnmcfmjaaQMx7
import Derived.Test.YteniblbnmcfmjaaQMx20
import Derived.Test.YteniblbnmcfmjaaQMx21
import Derived.Test.YteniblbnmcfmjaaQMx26
namespace Go.Proofs.Yteniblbnmcfmjaa.QM
open Go.RowKit Go.Proofs.YteniblbnmcfmjaaW.PrintWords Go.Proofs.YteniblbnmcfmjaaW.PrintLast Go.Proofs.YteniblbnmcfmjaaW.PrintMore
attribute [local go_sem] isSome_setCell max2_int min2_int max_two min_two max_three min_three max_four min_four
set_option linter.unusedVariables false
set_option linter.unusedSimpArgs false

/-! ### spec_DrawAreSameMatrices: function 19 -/
def spec_DrawAreSameMatrices.j0 : Nat → Bool → List Int → Int → Int → Int → Int → Int → Int → Option (Int × Int × Int × Int × Int × Int × Int × Int)
 | 0, _, _, _, _, _, _, _, _ => none
 | k + 1, x18, x415000, x415001, x415002, x420000, x420001, x420002, x420003 => if x18 = true then ((spec_l04Reduce.f k x420000 x420001 x420002 x420003).bind fun bt424 => (some (x420000, x420001, x420002, x420003, bt424.1, bt424.2.1, bt424.2.2.1, bt424.2.2.2.1))) else ((spec_l04Draw.f k x415000 x415001 x415002).bind fun bt430 => (some (x420000, x420001, x420002, x420003, bt430.1, bt430.2.1, bt430.2.2.1, bt430.2.2.2.1)))
def spec_DrawAreSameMatrices.f (k : Nat) (l0 : List Int) : Option (Int × Int × Int × Int × Int × Int × Int × Int) := (spec_l01From.f k l0).bind fun bt411 => ((spec_DrawReduceMatrix.f k l0).bind fun bt415 => ((spec_l01Next.f bt411.1 bt411.2.1 bt411.2.2 2).bind fun bt420 => (if bt420.1 = 0 then ((spec_l04Is.f k bt415.1 bt415.2.1 bt415.2.2.1 bt415.2.2.2).bind fun t423 => (spec_DrawAreSameMatrices.j0 k t423 bt411.1 bt420.2.1 bt420.2.2 bt415.1 bt415.2.1 bt415.2.2.1 bt415.2.2.2)) else (spec_DrawAreSameMatrices.j0 k false bt411.1 bt420.2.1 bt420.2.2 bt415.1 bt415.2.1 bt415.2.2.1 bt415.2.2.2))))
set_option maxHeartbeats 8000000 in
set_option maxRecDepth 100000 in
theorem spec_DrawAreSameMatrices.calls (k : Nat) (A0 : Option Addr) (c0 : Nat) (l0 : List Int) (r1 r2 r3 r4 r5 r6 r7 r8 : Int) (w : World) (hr0 : Kd.C (Kd.int .u8) w A0 l0.length l0) (hc0 : l0.length ≤ c0) (h : spec_DrawAreSameMatrices.f k l0 = some (r1, r2, r3, r4, r5, r6, r7, r8)) :
  Calls Try.prog 19 #[.slice A0 l0.length c0] w fun e w' => e = .returned (.tuple #[.agg #[.int .i64 r1, .int .i64 r2, .int .i64 r3, .int .i64 r4], .agg #[.int .i64 r5, .int .i64 r6, .int .i64 r7, .int .i64 r8]]) ∧ Below w.heap.size w w' := by
 have hu26 := Try.underlying26
 have HR0 := Aside0.mk hr0
 have HC0 := Aside0.mk hc0
 clear hr0 hc0
 have HB := Aside0.mk (Below.refl w.heap.size w)
 unfold spec_DrawAreSameMatrices.f at h
 have H := h
 clear h
 replace H := oc_ H
 obtain ⟨⟨t411, t412, t413⟩, A2, H⟩ := H
 replace H := oc_ H
 obtain ⟨⟨t415, t416, t417, t418⟩, A3, H⟩ := H
 have HC4 := Aside0.mk H
 clear H
 go_enter Try.func19, Try.ntmps19
 go_upto_region 3 with (first | ((refine gd_ 2 ?_); refine by_ 2 #[.int .i64 0, .int .i64 0, .int .i64 0, .int .i64 0] 26 HB ?_; intro gb409 hg w5 BK409 hb GW409 HB_; replace HB := HB_; clear hb hg) | ((refine gd_ 3 ?_); refine by_ 3 #[.int .i64 0, .int .i64 0, .int .i64 0, .int .i64 0] 26 HB ?_; intro gb410 hg w6 BK410 hb GW410 HB_; have NB409_410 := bm_ BK409 hg; have NB410_409 := bn_ BK409 hg; replace BK409 := bb_ BK409 hb; replace HB := HB_; clear hb hg) | ((refine gc_ 22 ?_); refine ge_ 9 Try.func22 #[.slice A0 l0.length c0] ?_; (with_reducible refine (spec_l01From.calls k _ _ l0 t411 t412 t413 w _ ?side1 ?side2 ?side3 A2.out).mono ?_); (case side1 => repeat (first | (with_reducible first | exact HB.out | apply below_alloc | apply pw_below_drewN | apply below_drew1 | refine below_set ?_ GW409.out | refine below_set ?_ GW410.out) | exact HB.out)); (case side2 => exact HR0.out); (case side3 => exact HC0.out); rintro e w7 ⟨g414, rfl, hi, hb, hb2⟩; refine ⟨_, rfl, ?_⟩; have HI414 := Aside0.mk (hi); have NB414_409 := Aside0.mk (IsS55.ne_blk hi (blk_below (g := gb409) (o := .cells #[.int .i64 0, .int .i64 0, .int .i64 0, .int .i64 0] 26 (0, 0)) (bl_ BK409).out hb2) (by decide)); have NB409_414 := Aside0.mk (Ne.symm (IsS55.ne_blk hi (blk_below (g := gb409) (o := .cells #[.int .i64 0, .int .i64 0, .int .i64 0, .int .i64 0] 26 (0, 0)) (bl_ BK409).out hb2) (by decide))); have NB414_410 := Aside0.mk (IsS55.ne_blk hi (blk_below (g := gb410) (o := .cells #[.int .i64 0, .int .i64 0, .int .i64 0, .int .i64 0] 26 (0, 0)) (bl_ BK410).out hb2) (by decide)); have NB410_414 := Aside0.mk (Ne.symm (IsS55.ne_blk hi (blk_below (g := gb410) (o := .cells #[.int .i64 0, .int .i64 0, .int .i64 0, .int .i64 0] 26 (0, 0)) (bl_ BK410).out hb2) (by decide))); replace BK409 := Aside0.mk (blk_below (g := gb409) (o := .cells #[.int .i64 0, .int .i64 0, .int .i64 0, .int .i64 0] 26 (0, 0)) (bl_ BK409).out hb2); replace BK410 := Aside0.mk (blk_below (g := gb410) (o := .cells #[.int .i64 0, .int .i64 0, .int .i64 0, .int .i64 0] 26 (0, 0)) (bl_ BK410).out hb2); replace HB := Aside0.mk (hb); (try clear hb); (try clear hb2); (try clear hi)) | ((refine gc_ 10 ?_); refine ge_ 11 Try.func10 #[.slice A0 l0.length c0] ?_; (with_reducible refine (spec_DrawReduceMatrix.calls k _ _ l0 t415 t416 t417 t418 _ ?side1 ?side2 A3.out).mono ?_); (case side1 => exact ca_ (Kd.C_below HR0.out HB.out)); (case side2 => exact HC0.out); rintro e w8 ⟨rfl, hb⟩; refine ⟨_, rfl, ?_⟩; replace BK409 := bb_ BK409 hb; replace BK410 := bb_ BK410 hb; replace HB := Aside0.mk (below_step (by repeat (first | (with_reducible first | exact HB.out | apply below_alloc | apply pw_below_drewN | apply below_drew1 | refine below_set ?_ (IsS55.ge HI414.out) | refine below_set ?_ GW409.out | refine below_set ?_ GW410.out) | exact HB.out)) hb); replace HI414 := Aside0.mk (IsS55.below (by repeat (first | (with_reducible first | exact HI414.out | apply IsS55.alloc | apply IsS55.drewN | apply IsS55.drew | apply IsS55.set_1 | apply IsS55.set_2 | refine IsS55.far ?_ NB414_409.out _ | refine IsS55.far ?_ NB414_410.out _) | exact HI414.out)) hb); (try clear hb)) | ((refine gd_ 5 ?_); refine bx_ 5 #[.int .i64 0, .int .i64 0, .int .i64 0, .int .i64 0] 26 ?_; intro gb419 hg w9 BK419 hb; have GW419 := Aside0.mk ((by rw [hg]; exact (below_size (by repeat (first | (with_reducible first | exact HB.out | apply below_alloc | apply pw_below_drewN | apply below_drew1 | refine below_set ?_ (IsS55.ge HI414.out) | refine below_set ?_ GW409.out | refine below_set ?_ GW410.out) | exact HB.out))) : w.heap.size ≤ gb419)); have GE419 := Aside0.mk ((by rw [hg]; exact (below_size (by repeat (first | (with_reducible first | exact HB.out | apply below_alloc | apply pw_below_drewN | apply below_drew1 | refine below_set ?_ (IsS55.ge HI414.out) | refine below_set ?_ GW409.out | refine below_set ?_ GW410.out) | exact HB.out))) : w.heap.size ≤ gb419)); have NB409_419 := bm_ BK409 hg; have NB419_409 := bn_ BK409 hg; have NB410_419 := bm_ BK410 hg; have NB419_410 := bn_ BK410 hg; have NB414_419 := Aside0.mk ((by rw [hg]; exact Nat.ne_of_lt (IsS55.lt (show IsS55 w _ g414 t411 t412 t413 from by repeat (first | (with_reducible first | exact HI414.out | apply IsS55.alloc | apply IsS55.drewN | apply IsS55.drew | apply IsS55.set_1 | apply IsS55.set_2 | refine IsS55.far ?_ NB414_409.out _ | refine IsS55.far ?_ NB414_410.out _) | exact HI414.out))) : g414 ≠ gb419)); have NB419_414 := Aside0.mk ((by rw [hg]; exact Nat.ne_of_gt (IsS55.lt (show IsS55 w _ g414 t411 t412 t413 from by repeat (first | (with_reducible first | exact HI414.out | apply IsS55.alloc | apply IsS55.drewN | apply IsS55.drew | apply IsS55.set_1 | apply IsS55.set_2 | refine IsS55.far ?_ NB414_409.out _ | refine IsS55.far ?_ NB414_410.out _) | exact HI414.out))) : gb419 ≠ g414)); replace BK409 := bb_ BK409 hb; replace BK410 := bb_ BK410 hb; replace HB := Aside0.mk (below_step (by repeat (first | (with_reducible first | exact HB.out | apply below_alloc | apply pw_below_drewN | apply below_drew1 | refine below_set ?_ (IsS55.ge HI414.out) | refine below_set ?_ GW409.out | refine below_set ?_ GW410.out) | exact HB.out)) hb); replace HI414 := Aside0.mk (IsS55.below (by repeat (first | (with_reducible first | exact HI414.out | apply IsS55.alloc | apply IsS55.drewN | apply IsS55.drew | apply IsS55.set_1 | apply IsS55.set_2 | refine IsS55.far ?_ NB414_409.out _ | refine IsS55.far ?_ NB414_410.out _) | exact HI414.out)) hb); clear hb hg; have hnb10 := NB419_409.out; have hnc10 := NB409_419.out; have hnb11 := NB419_410.out; have hnc11 := NB410_419.out; have hnb12 := NB419_414.out; have hnc12 := NB414_419.out; obtain ⟨hcz13_0, hcz13_1, hcz13_2, hcz13_3, hfz13_0, hfz13_1, hfz13_2, hfz13_3⟩ := ch4_ BK419))
 (try simp only [Act.put, lstS, lstZ, lstC])
 go_cut [18] (fun v18 wc => ∃ (kq : Nat) (x18_3 : Bool) (x415001_3 : Int) (x415002_3 : Int), v18 = .bool x18_3 ∧ Aside0 (spec_DrawAreSameMatrices.j0 kq x18_3 t411 x415001_3 x415002_3 t415 t416 t417 t418 = some (r1, r2, r3, r4, r5, r6, r7, r8)) ∧ Aside0 (kq ≤ k) ∧ Aside0 (wc.heap[gb409]? = some (.cells #[.int .i64 0, .int .i64 0, .int .i64 0, .int .i64 0] 26 (0, 0))) ∧ Aside0 (wc.heap[gb410]? = some (.cells #[.int .i64 0, .int .i64 0, .int .i64 0, .int .i64 0] 26 (0, 0))) ∧ Aside0 (wc.heap[gb419]? = some (.cells #[.int .i64 t415, .int .i64 t416, .int .i64 t417, .int .i64 t418] 26 (0, 0))) ∧ Aside0 (IsS55 w wc g414 t411 x415001_3 x415002_3) ∧ Aside0 (Below w.heap.size w wc))
 case first =>
  have H := HC4.out
  clear HC4
  replace H := oc_ H
  obtain ⟨⟨t420, t421, t422⟩, A14, H⟩ := H
  replace H := ie_ H
  rcases H with ⟨c15b0, c15b1, H⟩ | ⟨c15, c15b0, c15b1, H⟩
  ·(first | rw [c15b0] | (simp only [i64_w, i32_w]; rw [c15b0]) | skip)
   replace H := oc_ H
   obtain ⟨t423, A16, H⟩ := H
   have H' := Aside0.mk H
   clear H
   go_wp2_with (first | ((refine gc_ 36 ?_); refine ge_ 13 Try.func36 #[.pointer (some ⟨g414, 0, none⟩), .int .i64 2] ?_; (with_reducible refine (spec_l01Next.calls g414 t411 t412 t413 2 t420 t421 t422 w _ ?side1 ?side2 A14.out).mono ?_); (case side1 => repeat (first | (with_reducible first | exact HI414.out | apply IsS55.alloc | apply IsS55.drewN | apply IsS55.drew | apply IsS55.set_1 | apply IsS55.set_2 | refine IsS55.far ?_ NB414_409.out _ | refine IsS55.far ?_ NB414_410.out _ | refine IsS55.far ?_ NB414_419.out _) | exact HI414.out)); (case side2 => repeat (first | (with_reducible first | exact HB.out | apply below_alloc | apply pw_below_drewN | apply below_drew1 | refine below_set ?_ (IsS55.ge HI414.out) | refine below_set ?_ GW409.out | refine below_set ?_ GW410.out | refine below_set ?_ GE419.out) | exact HB.out)); rintro e w17 ⟨rfl, hi, hb, hk⟩; refine ⟨_, rfl, ?_⟩; replace BK409 := Aside0.mk (KeepBut.blk hk (g' := gb409) (o := .cells #[.int .i64 0, .int .i64 0, .int .i64 0, .int .i64 0] 26 (0, 0)) (fl_ BK409 NB409_419).out NB409_414.out (by simp)); replace BK410 := Aside0.mk (KeepBut.blk hk (g' := gb410) (o := .cells #[.int .i64 0, .int .i64 0, .int .i64 0, .int .i64 0] 26 (0, 0)) (fl_ BK410 NB410_419).out NB410_414.out (by simp)); replace BK419 := Aside0.mk (KeepBut.blk hk (g' := gb419) (o := .cells #[.int .i64 t415, .int .i64 t416, .int .i64 t417, .int .i64 t418] 26 (0, 0)) (bp_ BK419).out NB419_414.out (by simp)); replace HB := Aside0.mk (hb); replace HI414 := Aside0.mk (hi); (try clear hb); (try clear hk); (try clear hi); have hnb18 := NB419_409.out; have hnc18 := NB409_419.out; have hnb19 := NB419_410.out; have hnc19 := NB410_419.out; have hnb20 := NB419_414.out; have hnc20 := NB414_419.out; obtain ⟨hcz21_0, hcz21_1, hcz21_2, hcz21_3, hfz21_0, hfz21_1, hfz21_2, hfz21_3⟩ := ch4_ BK419) | (go_at_call 27; (with_reducible refine (spec_l04Is.calls k t415 t416 t417 t418 t423 _ A16.out).mono ?_); rintro e w22 ⟨rfl, hb⟩; replace BK409 := bb_ BK409 hb; replace BK410 := bb_ BK410 hb; replace BK419 := bb_ BK419 hb; replace HB := Aside0.mk (below_step (by repeat (first | (with_reducible first | exact HB.out | apply below_alloc | apply pw_below_drewN | apply below_drew1 | refine below_set ?_ (IsS55.ge HI414.out) | refine below_set ?_ GW409.out | refine below_set ?_ GW410.out | refine below_set ?_ GE419.out) | exact HB.out)) hb); replace HI414 := Aside0.mk (IsS55.below (by repeat (first | (with_reducible first | exact HI414.out | apply IsS55.alloc | apply IsS55.drewN | apply IsS55.drew | apply IsS55.set_1 | apply IsS55.set_2 | refine IsS55.far ?_ NB414_409.out _ | refine IsS55.far ?_ NB414_410.out _ | refine IsS55.far ?_ NB414_419.out _) | exact HI414.out)) hb); (try clear hb)))
   go_meet
   case rel => exact ⟨_, (t423), (t421), (t422), en_, H', ⟨by first | omega | exact Nat.le_refl _⟩, bl_ BK409, bl_ BK410, bl_ BK419, ⟨by repeat (first | (with_reducible first | exact HI414.out | apply IsS55.alloc | apply IsS55.drewN | apply IsS55.drew | apply IsS55.set_1 | apply IsS55.set_2 | refine IsS55.far ?_ NB414_409.out _ | refine IsS55.far ?_ NB414_410.out _ | refine IsS55.far ?_ NB414_419.out _) | exact HI414.out)⟩, ⟨by repeat (first | (with_reducible first | exact HB.out | apply below_alloc | apply pw_below_drewN | apply below_drew1 | refine below_set ?_ (IsS55.ge HI414.out) | refine below_set ?_ GW409.out | refine below_set ?_ GW410.out | refine below_set ?_ GE419.out) | exact HB.out)⟩⟩
  (first | rw [c15b0] | (simp only [i64_w, i32_w]; rw [c15b0]) | skip)
  have H' := Aside0.mk H
  clear H
  go_wp2_with (first | ((refine gc_ 36 ?_); refine ge_ 13 Try.func36 #[.pointer (some ⟨g414, 0, none⟩), .int .i64 2] ?_; (with_reducible refine (spec_l01Next.calls g414 t411 t412 t413 2 t420 t421 t422 w _ ?side1 ?side2 A14.out).mono ?_); (case side1 => repeat (first | (with_reducible first | exact HI414.out | apply IsS55.alloc | apply IsS55.drewN | apply IsS55.drew | apply IsS55.set_1 | apply IsS55.set_2 | refine IsS55.far ?_ NB414_409.out _ | refine IsS55.far ?_ NB414_410.out _ | refine IsS55.far ?_ NB414_419.out _) | exact HI414.out)); (case side2 => repeat (first | (with_reducible first | exact HB.out | apply below_alloc | apply pw_below_drewN | apply below_drew1 | refine below_set ?_ (IsS55.ge HI414.out) | refine below_set ?_ GW409.out | refine below_set ?_ GW410.out | refine below_set ?_ GE419.out) | exact HB.out)); rintro e w23 ⟨rfl, hi, hb, hk⟩; refine ⟨_, rfl, ?_⟩; replace BK409 := Aside0.mk (KeepBut.blk hk (g' := gb409) (o := .cells #[.int .i64 0, .int .i64 0, .int .i64 0, .int .i64 0] 26 (0, 0)) (fl_ BK409 NB409_419).out NB409_414.out (by simp)); replace BK410 := Aside0.mk (KeepBut.blk hk (g' := gb410) (o := .cells #[.int .i64 0, .int .i64 0, .int .i64 0, .int .i64 0] 26 (0, 0)) (fl_ BK410 NB410_419).out NB410_414.out (by simp)); replace BK419 := Aside0.mk (KeepBut.blk hk (g' := gb419) (o := .cells #[.int .i64 t415, .int .i64 t416, .int .i64 t417, .int .i64 t418] 26 (0, 0)) (bp_ BK419).out NB419_414.out (by simp)); replace HB := Aside0.mk (hb); replace HI414 := Aside0.mk (hi); (try clear hb); (try clear hk); (try clear hi)))
  go_meet
  case rel => exact ⟨_, (false), (t421), (t422), en_, H', ⟨by first | omega | exact Nat.le_refl _⟩, bl_ BK409, bl_ BK410, bl_ BK419, ⟨by repeat (first | (with_reducible first | exact HI414.out | apply IsS55.alloc | apply IsS55.drewN | apply IsS55.drew | apply IsS55.set_1 | apply IsS55.set_2 | refine IsS55.far ?_ NB414_409.out _ | refine IsS55.far ?_ NB414_410.out _ | refine IsS55.far ?_ NB414_419.out _) | exact HI414.out)⟩, ⟨by repeat (first | (with_reducible first | exact HB.out | apply below_alloc | apply pw_below_drewN | apply below_drew1 | refine below_set ?_ (IsS55.ge HI414.out) | refine below_set ?_ GW409.out | refine below_set ?_ GW410.out | refine below_set ?_ GE419.out) | exact HB.out)⟩⟩
 clear HC4
 try clear c15
 try clear c15b0
 try clear c15b1
 try clear hcz13_0 hcz13_1 hcz13_2 hcz13_3
 try clear hcz21_0 hcz21_1 hcz21_2 hcz21_3
 try clear hfz13_0 hfz13_1 hfz13_2 hfz13_3
 try clear hfz21_0 hfz21_1 hfz21_2 hfz21_3
 obtain ⟨kq, x18_3, x415001_3, x415002_3, rfl, HA, HJ3, BK409, BK410, BK419, HI414, HB⟩ := hcut
 cases kq with
 | zero => exact absurd HA.out (by simp [spec_DrawAreSameMatrices.j0])
 | succ kj3 =>
  have H := HA.out
  clear HA
  simp only [spec_DrawAreSameMatrices.j0] at H
  replace H := ib_ H
  rcases H with ⟨rfl, H⟩ | ⟨rfl, H⟩
  ·replace H := oc_ H
   obtain ⟨⟨t424, t425, t426, t427, t428⟩, A25, H⟩ := H
   simp only [Option.some.injEq, Prod.mk.injEq] at H
   obtain ⟨rfl, rfl, rfl, rfl, rfl, rfl, rfl, rfl⟩ := H
   have hnb26 := NB419_409.out
   have hnc26 := NB409_419.out
   have hnb27 := NB419_410.out
   have hnc27 := NB410_419.out
   have hnb28 := NB419_414.out
   have hnc28 := NB414_419.out
   obtain ⟨hcz29_0, hcz29_1, hcz29_2, hcz29_3, hfz29_0, hfz29_1, hfz29_2, hfz29_3⟩ := ch4_ BK419
   try go_wp2_with (first | ((refine gc_ 33 ?_); refine ge_ 21 Try.func33 #[.agg #[.int .i64 t415, .int .i64 t416, .int .i64 t417, .int .i64 t418]] ?_; (with_reducible refine (spec_l04Reduce.calls kj3 t415 t416 t417 t418 t424 t425 t426 t427 t428 _ A25.out).mono ?_); rintro e w30 ⟨rfl, hb⟩; refine ⟨_, rfl, ?_⟩; replace BK409 := bb_ BK409 hb; replace BK410 := bb_ BK410 hb; replace BK419 := bb_ BK419 hb; replace HB := Aside0.mk (below_step (by repeat (first | (with_reducible first | exact HB.out | apply below_alloc | apply pw_below_drewN | apply below_drew1 | refine below_set ?_ (IsS55.ge HI414.out) | refine below_set ?_ GW409.out | refine below_set ?_ GW410.out | refine below_set ?_ GE419.out) | exact HB.out)) hb); replace HI414 := Aside0.mk (IsS55.below (by repeat (first | (with_reducible first | exact HI414.out | apply IsS55.alloc | apply IsS55.drewN | apply IsS55.drew | apply IsS55.set_1 | apply IsS55.set_2 | refine IsS55.far ?_ NB414_409.out _ | refine IsS55.far ?_ NB414_410.out _ | refine IsS55.far ?_ NB414_419.out _) | exact HI414.out)) hb); (try clear hb)) | ((refine gd_ 6 ?_); refine bx_ 6 #[.int .i64 0, .int .i64 0, .int .i64 0, .int .i64 0] 26 ?_; intro gb429 hg w31 BK429 hb; have GW429 := Aside0.mk ((by rw [hg]; exact (below_size (by repeat (first | (with_reducible first | exact HB.out | apply below_alloc | apply pw_below_drewN | apply below_drew1 | refine below_set ?_ (IsS55.ge HI414.out) | refine below_set ?_ GW409.out | refine below_set ?_ GW410.out | refine below_set ?_ GE419.out) | exact HB.out))) : w.heap.size ≤ gb429)); have GE429 := Aside0.mk ((by rw [hg]; exact (below_size (by repeat (first | (with_reducible first | exact HB.out | apply below_alloc | apply pw_below_drewN | apply below_drew1 | refine below_set ?_ (IsS55.ge HI414.out) | refine below_set ?_ GW409.out | refine below_set ?_ GW410.out | refine below_set ?_ GE419.out) | exact HB.out))) : w.heap.size ≤ gb429)); have NB409_429 := bm_ BK409 hg; have NB429_409 := bn_ BK409 hg; have NB410_429 := bm_ BK410 hg; have NB429_410 := bn_ BK410 hg; have NB419_429 := bm_ BK419 hg; have NB429_419 := bn_ BK419 hg; have NB414_429 := Aside0.mk ((by rw [hg]; exact Nat.ne_of_lt (IsS55.lt (show IsS55 w _ g414 t411 x415001_3 x415002_3 from by repeat (first | (with_reducible first | exact HI414.out | apply IsS55.alloc | apply IsS55.drewN | apply IsS55.drew | apply IsS55.set_1 | apply IsS55.set_2 | refine IsS55.far ?_ NB414_409.out _ | refine IsS55.far ?_ NB414_410.out _ | refine IsS55.far ?_ NB414_419.out _) | exact HI414.out))) : g414 ≠ gb429)); have NB429_414 := Aside0.mk ((by rw [hg]; exact Nat.ne_of_gt (IsS55.lt (show IsS55 w _ g414 t411 x415001_3 x415002_3 from by repeat (first | (with_reducible first | exact HI414.out | apply IsS55.alloc | apply IsS55.drewN | apply IsS55.drew | apply IsS55.set_1 | apply IsS55.set_2 | refine IsS55.far ?_ NB414_409.out _ | refine IsS55.far ?_ NB414_410.out _ | refine IsS55.far ?_ NB414_419.out _) | exact HI414.out))) : gb429 ≠ g414)); replace BK409 := bb_ BK409 hb; replace BK410 := bb_ BK410 hb; replace BK419 := bb_ BK419 hb; replace HB := Aside0.mk (below_step (by repeat (first | (with_reducible first | exact HB.out | apply below_alloc | apply pw_below_drewN | apply below_drew1 | refine below_set ?_ (IsS55.ge HI414.out) | refine below_set ?_ GW409.out | refine below_set ?_ GW410.out | refine below_set ?_ GE419.out) | exact HB.out)) hb); replace HI414 := Aside0.mk (IsS55.below (by repeat (first | (with_reducible first | exact HI414.out | apply IsS55.alloc | apply IsS55.drewN | apply IsS55.drew | apply IsS55.set_1 | apply IsS55.set_2 | refine IsS55.far ?_ NB414_409.out _ | refine IsS55.far ?_ NB414_410.out _ | refine IsS55.far ?_ NB414_419.out _) | exact HI414.out)) hb); clear hb hg; have hnb32 := NB429_409.out; have hnc32 := NB409_429.out; have hnb33 := NB429_410.out; have hnc33 := NB410_429.out; have hnb34 := NB429_419.out; have hnc34 := NB419_429.out; have hnb35 := NB429_414.out; have hnc35 := NB414_429.out; obtain ⟨hcz36_0, hcz36_1, hcz36_2, hcz36_3, hfz36_0, hfz36_1, hfz36_2, hfz36_3⟩ := ch4_ BK429))
   have n0_ : Aside0 (((((w31.setCell ⟨gb429, 0, none⟩ (.int .i64 t424)).setCell ⟨gb429, 1, none⟩ (.int .i64 t425)).setCell ⟨gb429, 2, none⟩ (.int .i64 t426)).setCell ⟨gb429, 3, none⟩ (.int .i64 t427)).heap[gb409]? = some (.cells #[.int .i64 0, .int .i64 0, .int .i64 0, .int .i64 0] 26 (0, 0))) := fl_ BK409 NB409_429
   have n1_ : Aside0 (((((w31.setCell ⟨gb429, 0, none⟩ (.int .i64 t424)).setCell ⟨gb429, 1, none⟩ (.int .i64 t425)).setCell ⟨gb429, 2, none⟩ (.int .i64 t426)).setCell ⟨gb429, 3, none⟩ (.int .i64 t427)).heap[gb410]? = some (.cells #[.int .i64 0, .int .i64 0, .int .i64 0, .int .i64 0] 26 (0, 0))) := fl_ BK410 NB410_429
   have n2_ : Aside0 (((((w31.setCell ⟨gb429, 0, none⟩ (.int .i64 t424)).setCell ⟨gb429, 1, none⟩ (.int .i64 t425)).setCell ⟨gb429, 2, none⟩ (.int .i64 t426)).setCell ⟨gb429, 3, none⟩ (.int .i64 t427)).heap[gb419]? = some (.cells #[.int .i64 t415, .int .i64 t416, .int .i64 t417, .int .i64 t418] 26 (0, 0))) := fl_ BK419 NB419_429
   have n3_ : Aside0 (((((w31.setCell ⟨gb429, 0, none⟩ (.int .i64 t424)).setCell ⟨gb429, 1, none⟩ (.int .i64 t425)).setCell ⟨gb429, 2, none⟩ (.int .i64 t426)).setCell ⟨gb429, 3, none⟩ (.int .i64 t427)).heap[gb429]? = some (.cells #[.int .i64 t424, .int .i64 t425, .int .i64 t426, .int .i64 t427] 26 (0, 0))) := bp_ BK429
   have n4_ : Aside0 (IsS55 w ((((w31.setCell ⟨gb429, 0, none⟩ (.int .i64 t424)).setCell ⟨gb429, 1, none⟩ (.int .i64 t425)).setCell ⟨gb429, 2, none⟩ (.int .i64 t426)).setCell ⟨gb429, 3, none⟩ (.int .i64 t427)) g414 t411 x415001_3 x415002_3) := ⟨by repeat (first | (with_reducible first | exact HI414.out | apply IsS55.alloc | apply IsS55.drewN | apply IsS55.drew | apply IsS55.set_1 | apply IsS55.set_2 | refine IsS55.far ?_ NB414_409.out _ | refine IsS55.far ?_ NB414_410.out _ | refine IsS55.far ?_ NB414_419.out _ | refine IsS55.far ?_ NB414_429.out _) | exact HI414.out)⟩
   have n5_ : Aside0 (Below w.heap.size w ((((w31.setCell ⟨gb429, 0, none⟩ (.int .i64 t424)).setCell ⟨gb429, 1, none⟩ (.int .i64 t425)).setCell ⟨gb429, 2, none⟩ (.int .i64 t426)).setCell ⟨gb429, 3, none⟩ (.int .i64 t427))) := ⟨by repeat (first | (with_reducible first | exact HB.out | apply below_alloc | apply pw_below_drewN | apply below_drew1 | refine below_set ?_ (IsS55.ge HI414.out) | refine below_set ?_ GW409.out | refine below_set ?_ GW410.out | refine below_set ?_ GE419.out | refine below_set ?_ GE429.out) | exact HB.out)⟩
   (try clear BK409)
   (try clear BK410)
   (try clear BK419)
   (try clear BK429)
   (try clear HI414)
   (try clear HB)
   generalize ((((w31.setCell ⟨gb429, 0, none⟩ (.int .i64 t424)).setCell ⟨gb429, 1, none⟩ (.int .i64 t425)).setCell ⟨gb429, 2, none⟩ (.int .i64 t426)).setCell ⟨gb429, 3, none⟩ (.int .i64 t427)) = w37 at n0_ n1_ n2_ n3_ n4_ n5_ ⊢
   have BK409 := n0_
   have BK410 := n1_
   have BK419 := n2_
   have BK429 := n3_
   have HI414 := n4_
   have HB := n5_
   clear n0_ n1_ n2_ n3_ n4_ n5_
   replace BK409 := bd_ BK409
   replace BK410 := bd_ BK410
   replace BK419 := bd_ BK419
   replace BK429 := bd_ BK429
   replace HI414 := Aside0.mk (IsS55.drew HI414.out)
   replace HB := be_ HB
   refine start_ (n := 4) (S := fun w' => w'.cell? ⟨gb419, 0, none⟩ = some (.int .i64 t415) ∧ w'.cell? ⟨gb419, 1, none⟩ = some (.int .i64 t416) ∧ w'.cell? ⟨gb419, 2, none⟩ = some (.int .i64 t417) ∧ w'.cell? ⟨gb419, 3, none⟩ = some (.int .i64 t418) ∧ w'.cell? ⟨gb429, 0, none⟩ = some (.int .i64 t424) ∧ w'.cell? ⟨gb429, 1, none⟩ = some (.int .i64 t425) ∧ w'.cell? ⟨gb429, 2, none⟩ = some (.int .i64 t426) ∧ w'.cell? ⟨gb429, 3, none⟩ = some (.int .i64 t427)) (ds := []) (bv_ 4 0) (by kernel_rfl) rfl rfl ⟨cz_ BK419 0, cz_ BK419 1, cz_ BK419 2, cz_ BK419 3, cz_ BK429 0, cz_ BK429 1, cz_ BK429 2, cz_ BK429 3⟩ (fun hHeld => ?_)
   generalize w37.drew = w38 at BK409 BK410 BK419 BK429 HI414 HB hHeld ⊢
   refine take_ (i := 0) (N := some 24) (v := ?_) (a' := ?_) (bv_ 4 1) rfl rfl (by kernel_rfl) (fun _ _ _ h => h) (Or.inl ⟨by rfl, ?_⟩) hHeld ?_ ?_
   rotate_left
   ·rintro w' ⟨s0, s1, s2, s3, s4, s5, s6, s7⟩
    go_simp
    with_reducible rfl
   rotate_left
   ·simp only [Act.put, lstS, lstZ, lstC, i64_w, i32_w]
    rfl
   refine take_ (i := 1) (N := some 25) (v := ?_) (a' := ?_) (bv_ 4 3) rfl rfl (by kernel_rfl) (fun _ _ _ h => h) (Or.inl ⟨by rfl, ?_⟩) hHeld ?_ ?_
   rotate_left
   ·rintro w' ⟨s0, s1, s2, s3, s4, s5, s6, s7⟩
    go_simp
    with_reducible rfl
   rotate_left
   ·simp only [Act.put, lstS, lstZ, lstC, i64_w, i32_w]
    rfl
   refine one_ (i := 2) (N := none) (bv_ 4 7) rfl rfl (by kernel_rfl) (by decide) (fun K hK => ?_)
   have hs39 : w38.cell? ⟨gb409, 0, none⟩ = some (.int .i64 0) := (blk_cell BK409.out 0).trans rfl
   have hfs39 := blk_frozen BK409.out 0
   have hns39_1 := NB410_409.out
   have hns39_2 := NB419_409.out
   have hns39_3 := NB429_409.out
   have hms39_1 := NB409_410.out
   have hms39_2 := NB409_419.out
   have hms39_3 := NB409_429.out
   have hs40 : w38.cell? ⟨gb409, 1, none⟩ = some (.int .i64 0) := (blk_cell BK409.out 1).trans rfl
   have hfs40 := blk_frozen BK409.out 1
   have hns40_1 := NB410_409.out
   have hns40_2 := NB419_409.out
   have hns40_3 := NB429_409.out
   have hms40_1 := NB409_410.out
   have hms40_2 := NB409_419.out
   have hms40_3 := NB409_429.out
   have hs41 : w38.cell? ⟨gb409, 2, none⟩ = some (.int .i64 0) := (blk_cell BK409.out 2).trans rfl
   have hfs41 := blk_frozen BK409.out 2
   have hns41_1 := NB410_409.out
   have hns41_2 := NB419_409.out
   have hns41_3 := NB429_409.out
   have hms41_1 := NB409_410.out
   have hms41_2 := NB409_419.out
   have hms41_3 := NB409_429.out
   have hs42 : w38.cell? ⟨gb409, 3, none⟩ = some (.int .i64 0) := (blk_cell BK409.out 3).trans rfl
   have hfs42 := blk_frozen BK409.out 3
   have hns42_1 := NB410_409.out
   have hns42_2 := NB419_409.out
   have hns42_3 := NB429_409.out
   have hms42_1 := NB409_410.out
   have hms42_2 := NB409_419.out
   have hms42_3 := NB409_429.out
   refine skip_ (w1 := ?_) (by rfl) rfl ?_ ?_
   rotate_left
   ·go_simp
    rfl
   refine hK.out _ _ ⟨(cg_ NB419_409 ((cg_ NB419_409 ((cg_ NB419_409 ((cg_ NB419_409 (hHeld.1)))))))), (cg_ NB419_409 ((cg_ NB419_409 ((cg_ NB419_409 ((cg_ NB419_409 (hHeld.2.1)))))))), (cg_ NB419_409 ((cg_ NB419_409 ((cg_ NB419_409 ((cg_ NB419_409 (hHeld.2.2.1)))))))), (cg_ NB419_409 ((cg_ NB419_409 ((cg_ NB419_409 ((cg_ NB419_409 (hHeld.2.2.2.1)))))))), (cg_ NB429_409 ((cg_ NB429_409 ((cg_ NB429_409 ((cg_ NB429_409 (hHeld.2.2.2.2.1)))))))), (cg_ NB429_409 ((cg_ NB429_409 ((cg_ NB429_409 ((cg_ NB429_409 (hHeld.2.2.2.2.2.1)))))))), (cg_ NB429_409 ((cg_ NB429_409 ((cg_ NB429_409 ((cg_ NB429_409 (hHeld.2.2.2.2.2.2.1)))))))), (cg_ NB429_409 ((cg_ NB429_409 ((cg_ NB429_409 ((cg_ NB429_409 (hHeld.2.2.2.2.2.2.2))))))))⟩ (fun hHeld => ?_)
   clear hK K
   refine one_ (i := 3) (N := none) (bv_ 4 15) rfl rfl (by kernel_rfl) (by decide) (fun K hK => ?_)
   have hs43 : w38.cell? ⟨gb410, 0, none⟩ = some (.int .i64 0) := (blk_cell BK410.out 0).trans rfl
   have hfs43 := blk_frozen BK410.out 0
   have hns43_0 := NB409_410.out
   have hns43_2 := NB419_410.out
   have hns43_3 := NB429_410.out
   have hms43_0 := NB410_409.out
   have hms43_2 := NB410_419.out
   have hms43_3 := NB410_429.out
   have hs44 : w38.cell? ⟨gb410, 1, none⟩ = some (.int .i64 0) := (blk_cell BK410.out 1).trans rfl
   have hfs44 := blk_frozen BK410.out 1
   have hns44_0 := NB409_410.out
   have hns44_2 := NB419_410.out
   have hns44_3 := NB429_410.out
   have hms44_0 := NB410_409.out
   have hms44_2 := NB410_419.out
   have hms44_3 := NB410_429.out
   have hs45 : w38.cell? ⟨gb410, 2, none⟩ = some (.int .i64 0) := (blk_cell BK410.out 2).trans rfl
   have hfs45 := blk_frozen BK410.out 2
   have hns45_0 := NB409_410.out
   have hns45_2 := NB419_410.out
   have hns45_3 := NB429_410.out
   have hms45_0 := NB410_409.out
   have hms45_2 := NB410_419.out
   have hms45_3 := NB410_429.out
   have hs46 : w38.cell? ⟨gb410, 3, none⟩ = some (.int .i64 0) := (blk_cell BK410.out 3).trans rfl
   have hfs46 := blk_frozen BK410.out 3
   have hns46_0 := NB409_410.out
   have hns46_2 := NB419_410.out
   have hns46_3 := NB429_410.out
   have hms46_0 := NB410_409.out
   have hms46_2 := NB410_419.out
   have hms46_3 := NB410_429.out
   refine skip_ (w1 := ?_) (by rfl) rfl ?_ ?_
   rotate_left
   ·go_simp
    rfl
   refine hK.out _ _ ⟨(cg_ NB419_410 ((cg_ NB419_410 ((cg_ NB419_410 ((cg_ NB419_410 (hHeld.1)))))))), (cg_ NB419_410 ((cg_ NB419_410 ((cg_ NB419_410 ((cg_ NB419_410 (hHeld.2.1)))))))), (cg_ NB419_410 ((cg_ NB419_410 ((cg_ NB419_410 ((cg_ NB419_410 (hHeld.2.2.1)))))))), (cg_ NB419_410 ((cg_ NB419_410 ((cg_ NB419_410 ((cg_ NB419_410 (hHeld.2.2.2.1)))))))), (cg_ NB429_410 ((cg_ NB429_410 ((cg_ NB429_410 ((cg_ NB429_410 (hHeld.2.2.2.2.1)))))))), (cg_ NB429_410 ((cg_ NB429_410 ((cg_ NB429_410 ((cg_ NB429_410 (hHeld.2.2.2.2.2.1)))))))), (cg_ NB429_410 ((cg_ NB429_410 ((cg_ NB429_410 ((cg_ NB429_410 (hHeld.2.2.2.2.2.2.1)))))))), (cg_ NB429_410 ((cg_ NB429_410 ((cg_ NB429_410 ((cg_ NB429_410 (hHeld.2.2.2.2.2.2.2))))))))⟩ (fun hHeld => ?_)
   clear hK K
   refine done_ (by kernel_rfl) ?_
   try go_wp2
   refine bodyPost_ret (results_cc rfl _ _ gb409 gb410 26 26 #[.int .i64 t415, .int .i64 t416, .int .i64 t417, .int .i64 t418] #[.int .i64 t424, .int .i64 t425, .int .i64 t426, .int .i64 t427] (0, 0) (0, 0) _ _ rfl (bp_ BK409).out Try.underlying26 rfl (by kernel_rfl) rfl (bp_ BK410).out Try.underlying26 rfl (by kernel_rfl)) rfl ?_
   exact ⟨es_, by repeat (first | (with_reducible first | exact HB.out | apply below_alloc | apply pw_below_drewN | apply below_drew1 | refine below_set ?_ (IsS55.ge HI414.out) | refine below_set ?_ GW409.out | refine below_set ?_ GW410.out | refine below_set ?_ GE419.out | refine below_set ?_ GE429.out) | exact HB.out)⟩
  replace H := oc_ H
  obtain ⟨⟨t430, t431, t432, t433, t434, t435⟩, A47, H⟩ := H
  simp only [Option.some.injEq, Prod.mk.injEq] at H
  obtain ⟨rfl, rfl, rfl, rfl, rfl, rfl, rfl, rfl⟩ := H
  try go_wp2
  replace BK409 := bd_ BK409
  replace BK410 := bd_ BK410
  replace BK419 := bd_ BK419
  replace HI414 := Aside0.mk (IsS55.drew HI414.out)
  replace HB := be_ HB
  refine start_ (n := 5) (S := fun w' => w'.cell? ⟨gb419, 0, none⟩ = some (.int .i64 t415) ∧ w'.cell? ⟨gb419, 1, none⟩ = some (.int .i64 t416) ∧ w'.cell? ⟨gb419, 2, none⟩ = some (.int .i64 t417) ∧ w'.cell? ⟨gb419, 3, none⟩ = some (.int .i64 t418)) (ds := []) (bv_ 5 0) (by kernel_rfl) rfl rfl ⟨cz_ BK419 0, cz_ BK419 1, cz_ BK419 2, cz_ BK419 3⟩ (fun hHeld => ?_)
  generalize wc.drew = w48 at BK409 BK410 BK419 HI414 HB hHeld ⊢
  refine pure_ (i := 1) (N := some 27) (v := ?_) (a' := ?_) (bv_ 5 2) rfl rfl (by kernel_rfl) (fun _ _ _ h => h) (Or.inl ⟨by rfl, ?_⟩) ?_ ?_
  rotate_left
  ·intro w'
   go_simp
   with_reducible rfl
  rotate_left
  ·simp only [Act.put, lstS, lstZ, lstC, i64_w, i32_w]
   rfl
  refine take_ (i := 0) (N := some 26) (v := ?_) (a' := ?_) (bv_ 5 3) rfl rfl (by kernel_rfl) (fun _ _ _ h => h) (Or.inl ⟨by rfl, ?_⟩) hHeld ?_ ?_
  rotate_left
  ·rintro w' ⟨s0, s1, s2, s3⟩
   go_simp
   with_reducible rfl
  rotate_left
  ·simp only [Act.put, lstS, lstZ, lstC, i64_w, i32_w]
   rfl
  refine one_ (i := 2) (N := some 28) (bv_ 5 7) rfl rfl (by kernel_rfl) (by decide) (fun K hK => ?_)
  refine gs_ Try.func23 #[.pointer (some ⟨g414, 0, none⟩)] ?_
  with_reducible refine (spec_l04Draw.calls kj3 g414 t411 x415001_3 x415002_3 t430 t431 t432 t433 t434 t435 w _ ?side1 ?side2 A47.out).mono ?_
  (case side1 => repeat (first | (with_reducible first | exact HI414.out | apply IsS55.alloc | apply IsS55.drewN | apply IsS55.drew | apply IsS55.set_1 | apply IsS55.set_2 | refine IsS55.far ?_ NB414_409.out _ | refine IsS55.far ?_ NB414_410.out _ | refine IsS55.far ?_ NB414_419.out _) | exact HI414.out))
  (case side2 => repeat (first | (with_reducible first | exact HB.out | apply below_alloc | apply pw_below_drewN | apply below_drew1 | refine below_set ?_ (IsS55.ge HI414.out) | refine below_set ?_ GW409.out | refine below_set ?_ GW410.out | refine below_set ?_ GE419.out) | exact HB.out))
  rintro e w49 ⟨rfl, hi, hb, hk⟩
  refine ⟨_, rfl, ?_⟩
  replace BK409 := Aside0.mk (KeepBut.blk hk (g' := gb409) (o := .cells #[.int .i64 0, .int .i64 0, .int .i64 0, .int .i64 0] 26 (0, 0)) (bl_ BK409).out NB409_414.out (by simp))
  replace BK410 := Aside0.mk (KeepBut.blk hk (g' := gb410) (o := .cells #[.int .i64 0, .int .i64 0, .int .i64 0, .int .i64 0] 26 (0, 0)) (bl_ BK410).out NB410_414.out (by simp))
  replace BK419 := Aside0.mk (KeepBut.blk hk (g' := gb419) (o := .cells #[.int .i64 t415, .int .i64 t416, .int .i64 t417, .int .i64 t418] 26 (0, 0)) (bl_ BK419).out NB419_414.out (by simp))
  replace HB := Aside0.mk (hb)
  replace HI414 := Aside0.mk (hi)
  try clear hb
  try clear hk
  try clear hi
  refine hK.out _ _ ⟨cz_ BK419 0, cz_ BK419 1, cz_ BK419 2, cz_ BK419 3⟩ (fun hHeld => ?_)
  clear hK K
  refine nm_ (some 28) ?_
  refine one_ (i := 3) (N := none) (bv_ 5 15) rfl rfl (by kernel_rfl) (by decide) (fun K hK => ?_)
  have hs50 : w49.cell? ⟨gb409, 0, none⟩ = some (.int .i64 0) := (blk_cell BK409.out 0).trans rfl
  have hfs50 := blk_frozen BK409.out 0
  have hns50_1 := NB410_409.out
  have hns50_2 := NB419_409.out
  have hms50_1 := NB409_410.out
  have hms50_2 := NB409_419.out
  have hs51 : w49.cell? ⟨gb409, 1, none⟩ = some (.int .i64 0) := (blk_cell BK409.out 1).trans rfl
  have hfs51 := blk_frozen BK409.out 1
  have hns51_1 := NB410_409.out
  have hns51_2 := NB419_409.out
  have hms51_1 := NB409_410.out
  have hms51_2 := NB409_419.out
  have hs52 : w49.cell? ⟨gb409, 2, none⟩ = some (.int .i64 0) := (blk_cell BK409.out 2).trans rfl
  have hfs52 := blk_frozen BK409.out 2
  have hns52_1 := NB410_409.out
  have hns52_2 := NB419_409.out
  have hms52_1 := NB409_410.out
  have hms52_2 := NB409_419.out
  have hs53 : w49.cell? ⟨gb409, 3, none⟩ = some (.int .i64 0) := (blk_cell BK409.out 3).trans rfl
  have hfs53 := blk_frozen BK409.out 3
  have hns53_1 := NB410_409.out
  have hns53_2 := NB419_409.out
  have hms53_1 := NB409_410.out
  have hms53_2 := NB409_419.out
  refine skip_ (w1 := ?_) (by rfl) rfl ?_ ?_
  rotate_left
  ·go_simp
   rfl
  refine hK.out _ _ ⟨(cg_ NB419_409 ((cg_ NB419_409 ((cg_ NB419_409 ((cg_ NB419_409 (hHeld.1)))))))), (cg_ NB419_409 ((cg_ NB419_409 ((cg_ NB419_409 ((cg_ NB419_409 (hHeld.2.1)))))))), (cg_ NB419_409 ((cg_ NB419_409 ((cg_ NB419_409 ((cg_ NB419_409 (hHeld.2.2.1)))))))), (cg_ NB419_409 ((cg_ NB419_409 ((cg_ NB419_409 ((cg_ NB419_409 (hHeld.2.2.2))))))))⟩ (fun hHeld => ?_)
  clear hK K
  refine one_ (i := 4) (N := none) (bv_ 5 31) rfl rfl (by kernel_rfl) (by decide) (fun K hK => ?_)
  have hs54 : w49.cell? ⟨gb410, 0, none⟩ = some (.int .i64 0) := (blk_cell BK410.out 0).trans rfl
  have hfs54 := blk_frozen BK410.out 0
  have hns54_0 := NB409_410.out
  have hns54_2 := NB419_410.out
  have hms54_0 := NB410_409.out
  have hms54_2 := NB410_419.out
  have hs55 : w49.cell? ⟨gb410, 1, none⟩ = some (.int .i64 0) := (blk_cell BK410.out 1).trans rfl
  have hfs55 := blk_frozen BK410.out 1
  have hns55_0 := NB409_410.out
  have hns55_2 := NB419_410.out
  have hms55_0 := NB410_409.out
  have hms55_2 := NB410_419.out
  have hs56 : w49.cell? ⟨gb410, 2, none⟩ = some (.int .i64 0) := (blk_cell BK410.out 2).trans rfl
  have hfs56 := blk_frozen BK410.out 2
  have hns56_0 := NB409_410.out
  have hns56_2 := NB419_410.out
  have hms56_0 := NB410_409.out
  have hms56_2 := NB410_419.out
  have hs57 : w49.cell? ⟨gb410, 3, none⟩ = some (.int .i64 0) := (blk_cell BK410.out 3).trans rfl
  have hfs57 := blk_frozen BK410.out 3
  have hns57_0 := NB409_410.out
  have hns57_2 := NB419_410.out
  have hms57_0 := NB410_409.out
  have hms57_2 := NB410_419.out
  refine skip_ (w1 := ?_) (by rfl) rfl ?_ ?_
  rotate_left
  ·go_simp
   rfl
  refine hK.out _ _ ⟨(cg_ NB419_410 ((cg_ NB419_410 ((cg_ NB419_410 ((cg_ NB419_410 (hHeld.1)))))))), (cg_ NB419_410 ((cg_ NB419_410 ((cg_ NB419_410 ((cg_ NB419_410 (hHeld.2.1)))))))), (cg_ NB419_410 ((cg_ NB419_410 ((cg_ NB419_410 ((cg_ NB419_410 (hHeld.2.2.1)))))))), (cg_ NB419_410 ((cg_ NB419_410 ((cg_ NB419_410 ((cg_ NB419_410 (hHeld.2.2.2))))))))⟩ (fun hHeld => ?_)
  clear hK K
  refine done_ (by kernel_rfl) ?_
  try go_wp2
  refine bodyPost_ret (results_cc rfl _ _ gb409 gb410 26 26 #[.int .i64 t415, .int .i64 t416, .int .i64 t417, .int .i64 t418] #[.int .i64 t430, .int .i64 t431, .int .i64 t432, .int .i64 t433] (0, 0) (0, 0) _ _ rfl (bp_ BK409).out Try.underlying26 rfl (by kernel_rfl) rfl (bp_ BK410).out Try.underlying26 rfl (by kernel_rfl)) rfl ?_
  exact ⟨es_, by repeat (first | (with_reducible first | exact HB.out | apply below_alloc | apply pw_below_drewN | apply below_drew1 | refine below_set ?_ (IsS55.ge HI414.out) | refine below_set ?_ GW409.out | refine below_set ?_ GW410.out | refine below_set ?_ GE419.out) | exact HB.out)⟩
end Go.Proofs.Yteniblbnmcfmjaa.QM
