import Derived.Test.YtgoeelhiffbjlaaQRx8
import Derived.Test.YtgoeelhiffbjlaaQRx57
import Derived.Test.YtgoeelhiffbjlaaQRx22
import Derived.Test.YtgoeelhiffbjlaaQRx30
namespace Go.Proofs.Ytgoeelhiffbjlaa.QR
set_option maxHeartbeats 8000000
set_option maxRecDepth 100000
open Go.RowKit Go.Proofs.YtgoeelhiffbjlaaW.PrintWords Go.Proofs.YtgoeelhiffbjlaaW.PrintLast Go.Proofs.YtgoeelhiffbjlaaW.PrintMore
attribute [local go_sem] isSome_setCell max2_int min2_int max_two min_two max_three min_three max_four min_four
set_option linter.unusedVariables false
set_option linter.unusedSimpArgs false

/-! ### spec_DrawWayWord: function 16 -/
def spec_DrawWayWord.f (k : Nat) (l0 : List Int) : Option (Int × Int × Int × Int × Int × Int × Int) := (spec_l01From.f k l0).bind fun bt536 => ((spec_l02Two.f k bt536.1 bt536.2.1 bt536.2.2).bind fun bt540 => (some (bt540.1, bt540.2.1, bt540.2.2.1, bt540.2.2.2.1, bt540.2.2.2.2.1, bt540.2.2.2.2.2.1, bt540.2.2.2.2.2.2.1)))
theorem spec_DrawWayWord.calls (k : Nat) (A0 : Option Addr) (c0 : Nat) (l0 : List Int) (r1 : Int) (r2 : Int) (r3 : Int) (r4 : Int) (r5 : Int) (r6 : Int) (r7 : Int) (w : World) (hr0 : Kd.C (Kd.int .u8) w A0 l0.length l0) (hc0 : l0.length ≤ c0) (h : spec_DrawWayWord.f k l0 = some (r1, r2, r3, r4, r5, r6, r7)) :
  Calls Try.prog 16 #[.slice A0 l0.length c0] w fun e w' => e = .returned (.tuple #[.int .i64 r1, .agg #[.int .i64 r2, .int .i64 r3, .int .i64 r4], .agg #[.int .i64 r5, .int .i64 r6, .int .i64 r7]]) ∧ Below w.heap.size w w' := by
 have hu25 := Try.underlying25
 have HR0 := Aside0.mk hr0
 have HC0 := Aside0.mk hc0
 clear hr0 hc0
 have HB := Aside0.mk (Below.refl w.heap.size w)
 have H : ((spec_l01From.f k l0).bind fun bt536 => ((spec_l02Two.f k bt536.1 bt536.2.1 bt536.2.2).bind fun bt540 => (some (bt540.1, bt540.2.1, bt540.2.2.1, bt540.2.2.2.1, bt540.2.2.2.2.1, bt540.2.2.2.2.2.1, bt540.2.2.2.2.2.2.1)))) = some (r1, r2, r3, r4, r5, r6, r7) := h
 clear h
 replace H := ob_ H
 obtain ⟨⟨t536, t537, t538⟩, A20, H⟩ := H
 have A2 := Aside0.mk A20
 clear A20
 replace H := ob_ H
 obtain ⟨⟨t540, t541, t542, t543, t544, t545, t546, t547, t548⟩, A30, H⟩ := H
 have A3 := Aside0.mk A30
 clear A30
 simp only [Option.some.injEq, Prod.mk.injEq] at H
 obtain ⟨rfl, rfl, rfl, rfl, rfl, rfl, rfl⟩ := H
 go_enter Try.func16, Try.ntmps16
 try go_wp2_with (first | ((refine gd_ 3 ?_); refine bx_ 3 #[.int .i64 0, .int .i64 0, .int .i64 0] 25 ?_; intro gb534 hg w4 BK534 hb; have GW534 := bs_ HB hg; have GE534 := bs_ HB hg; replace HB := bt_ HB hb; clear hb hg) | ((refine gd_ 4 ?_); refine bx_ 4 #[.int .i64 0, .int .i64 0, .int .i64 0] 25 ?_; intro gb535 hg w5 BK535 hb; have GW535 := bs_ HB hg; have GE535 := bs_ HB hg; have NB534_535 := bm_ BK534 hg; have NB535_534 := bn_ BK534 hg; replace BK534 := bb_ BK534 hb; replace HB := bt_ HB hb; clear hb hg) | ((refine gc_ 73 ?_); refine ge_ 10 Try.func73 #[.slice A0 l0.length c0] ?_; (with_reducible refine (spec_l01From.calls k _ _ l0 t536 t537 t538 w _ ?side1 ?side2 ?side3 A2.out).mono ?_); (case side1 => repeat (first | (with_reducible first | exact HB.out | apply below_alloc | apply pw_below_drewN | apply below_drew1 | refine below_set ?_ GE534.out | refine below_set ?_ GE535.out) | exact HB.out)); (case side2 => exact HR0.out); (case side3 => exact HC0.out); rintro e w6 ⟨g539, rfl, hi, hb, hb2⟩; refine ⟨_, rfl, ?_⟩; have HI539 := Aside0.mk (hi); have NB539_534 := Aside0.mk (IsS164.ne_blk hi (blk_below (g := gb534) (o := .cells #[.int .i64 0, .int .i64 0, .int .i64 0] 25 (0, 0)) (bl_ BK534).out hb2) (by decide)); have NB534_539 := Aside0.mk (Ne.symm (IsS164.ne_blk hi (blk_below (g := gb534) (o := .cells #[.int .i64 0, .int .i64 0, .int .i64 0] 25 (0, 0)) (bl_ BK534).out hb2) (by decide))); have NB539_535 := Aside0.mk (IsS164.ne_blk hi (blk_below (g := gb535) (o := .cells #[.int .i64 0, .int .i64 0, .int .i64 0] 25 (0, 0)) (bl_ BK535).out hb2) (by decide)); have NB535_539 := Aside0.mk (Ne.symm (IsS164.ne_blk hi (blk_below (g := gb535) (o := .cells #[.int .i64 0, .int .i64 0, .int .i64 0] 25 (0, 0)) (bl_ BK535).out hb2) (by decide))); replace BK534 := Aside0.mk (blk_below (g := gb534) (o := .cells #[.int .i64 0, .int .i64 0, .int .i64 0] 25 (0, 0)) (bl_ BK534).out hb2); replace BK535 := Aside0.mk (blk_below (g := gb535) (o := .cells #[.int .i64 0, .int .i64 0, .int .i64 0] 25 (0, 0)) (bl_ BK535).out hb2); replace HB := Aside0.mk (hb); (try clear hb); (try clear hb2); (try clear hi)) | ((refine gc_ 85 ?_); refine ge_ 11 Try.func85 #[.pointer (some ⟨g539, 0, none⟩)] ?_; (with_reducible refine (spec_l02Two.calls k g539 t536 t537 t538 t540 t541 t542 t543 t544 t545 t546 t547 t548 w _ ?side1 ?side2 A3.out).mono ?_); (case side1 => repeat (first | (with_reducible first | exact HI539.out | apply IsS164.alloc | apply IsS164.drewN | apply IsS164.drew | apply IsS164.set_1 | apply IsS164.set_2 | refine IsS164.far ?_ NB539_534.out _ | refine IsS164.far ?_ NB539_535.out _) | exact HI539.out)); (case side2 => repeat (first | (with_reducible first | exact HB.out | apply below_alloc | apply pw_below_drewN | apply below_drew1 | refine below_set ?_ (IsS164.ge HI539.out) | refine below_set ?_ GE534.out | refine below_set ?_ GE535.out) | exact HB.out)); rintro e w7 ⟨rfl, hi, hb, hk⟩; refine ⟨_, rfl, ?_⟩; replace BK534 := Aside0.mk (KeepBut.blk hk (g' := gb534) (o := .cells #[.int .i64 0, .int .i64 0, .int .i64 0] 25 (0, 0)) (bl_ BK534).out NB534_539.out (by simp)); replace BK535 := Aside0.mk (KeepBut.blk hk (g' := gb535) (o := .cells #[.int .i64 0, .int .i64 0, .int .i64 0] 25 (0, 0)) (bl_ BK535).out NB535_539.out (by simp)); replace HB := Aside0.mk (hb); replace HI539 := Aside0.mk (hi); (try clear hb); (try clear hk); (try clear hi)) | ((refine gd_ 6 ?_); refine bx_ 6 #[.int .i64 0, .int .i64 0, .int .i64 0] 25 ?_; intro gb549 hg w8 BK549 hb; have GW549 := Aside0.mk ((by rw [hg]; exact (below_size (by repeat (first | (with_reducible first | exact HB.out | apply below_alloc | apply pw_below_drewN | apply below_drew1 | refine below_set ?_ (IsS164.ge HI539.out) | refine below_set ?_ GE534.out | refine below_set ?_ GE535.out) | exact HB.out))) : w.heap.size ≤ gb549)); have GE549 := Aside0.mk ((by rw [hg]; exact (below_size (by repeat (first | (with_reducible first | exact HB.out | apply below_alloc | apply pw_below_drewN | apply below_drew1 | refine below_set ?_ (IsS164.ge HI539.out) | refine below_set ?_ GE534.out | refine below_set ?_ GE535.out) | exact HB.out))) : w.heap.size ≤ gb549)); have NB534_549 := bm_ BK534 hg; have NB549_534 := bn_ BK534 hg; have NB535_549 := bm_ BK535 hg; have NB549_535 := bn_ BK535 hg; have NB539_549 := Aside0.mk ((by rw [hg]; exact Nat.ne_of_lt (IsS164.lt (show IsS164 w _ g539 t536 t547 t548 from by repeat (first | (with_reducible first | exact HI539.out | apply IsS164.alloc | apply IsS164.drewN | apply IsS164.drew | apply IsS164.set_1 | apply IsS164.set_2 | refine IsS164.far ?_ NB539_534.out _ | refine IsS164.far ?_ NB539_535.out _) | exact HI539.out))) : g539 ≠ gb549)); have NB549_539 := Aside0.mk ((by rw [hg]; exact Nat.ne_of_gt (IsS164.lt (show IsS164 w _ g539 t536 t547 t548 from by repeat (first | (with_reducible first | exact HI539.out | apply IsS164.alloc | apply IsS164.drewN | apply IsS164.drew | apply IsS164.set_1 | apply IsS164.set_2 | refine IsS164.far ?_ NB539_534.out _ | refine IsS164.far ?_ NB539_535.out _) | exact HI539.out))) : gb549 ≠ g539)); replace BK534 := bb_ BK534 hb; replace BK535 := bb_ BK535 hb; replace HB := Aside0.mk (below_step (by repeat (first | (with_reducible first | exact HB.out | apply below_alloc | apply pw_below_drewN | apply below_drew1 | refine below_set ?_ (IsS164.ge HI539.out) | refine below_set ?_ GE534.out | refine below_set ?_ GE535.out) | exact HB.out)) hb); replace HI539 := Aside0.mk (IsS164.below (by repeat (first | (with_reducible first | exact HI539.out | apply IsS164.alloc | apply IsS164.drewN | apply IsS164.drew | apply IsS164.set_1 | apply IsS164.set_2 | refine IsS164.far ?_ NB539_534.out _ | refine IsS164.far ?_ NB539_535.out _) | exact HI539.out)) hb); clear hb hg) | ((refine gd_ 7 ?_); refine bx_ 7 #[.int .i64 0, .int .i64 0, .int .i64 0] 25 ?_; intro gb550 hg w9 BK550 hb; have GW550 := Aside0.mk ((by rw [hg]; exact (below_size (by repeat (first | (with_reducible first | exact HB.out | apply below_alloc | apply pw_below_drewN | apply below_drew1 | refine below_set ?_ (IsS164.ge HI539.out) | refine below_set ?_ GE534.out | refine below_set ?_ GE535.out | refine below_set ?_ GE549.out) | exact HB.out))) : w.heap.size ≤ gb550)); have GE550 := Aside0.mk ((by rw [hg]; exact (below_size (by repeat (first | (with_reducible first | exact HB.out | apply below_alloc | apply pw_below_drewN | apply below_drew1 | refine below_set ?_ (IsS164.ge HI539.out) | refine below_set ?_ GE534.out | refine below_set ?_ GE535.out | refine below_set ?_ GE549.out) | exact HB.out))) : w.heap.size ≤ gb550)); have NB534_550 := bm_ BK534 hg; have NB550_534 := bn_ BK534 hg; have NB535_550 := bm_ BK535 hg; have NB550_535 := bn_ BK535 hg; have NB549_550 := bm_ BK549 hg; have NB550_549 := bn_ BK549 hg; have NB539_550 := Aside0.mk ((by rw [hg]; exact Nat.ne_of_lt (IsS164.lt (show IsS164 w _ g539 t536 t547 t548 from by repeat (first | (with_reducible first | exact HI539.out | apply IsS164.alloc | apply IsS164.drewN | apply IsS164.drew | apply IsS164.set_1 | apply IsS164.set_2 | refine IsS164.far ?_ NB539_534.out _ | refine IsS164.far ?_ NB539_535.out _ | refine IsS164.far ?_ NB539_549.out _) | exact HI539.out))) : g539 ≠ gb550)); have NB550_539 := Aside0.mk ((by rw [hg]; exact Nat.ne_of_gt (IsS164.lt (show IsS164 w _ g539 t536 t547 t548 from by repeat (first | (with_reducible first | exact HI539.out | apply IsS164.alloc | apply IsS164.drewN | apply IsS164.drew | apply IsS164.set_1 | apply IsS164.set_2 | refine IsS164.far ?_ NB539_534.out _ | refine IsS164.far ?_ NB539_535.out _ | refine IsS164.far ?_ NB539_549.out _) | exact HI539.out))) : gb550 ≠ g539)); replace BK534 := bb_ BK534 hb; replace BK535 := bb_ BK535 hb; replace BK549 := bb_ BK549 hb; replace HB := Aside0.mk (below_step (by repeat (first | (with_reducible first | exact HB.out | apply below_alloc | apply pw_below_drewN | apply below_drew1 | refine below_set ?_ (IsS164.ge HI539.out) | refine below_set ?_ GE534.out | refine below_set ?_ GE535.out | refine below_set ?_ GE549.out) | exact HB.out)) hb); replace HI539 := Aside0.mk (IsS164.below (by repeat (first | (with_reducible first | exact HI539.out | apply IsS164.alloc | apply IsS164.drewN | apply IsS164.drew | apply IsS164.set_1 | apply IsS164.set_2 | refine IsS164.far ?_ NB539_534.out _ | refine IsS164.far ?_ NB539_535.out _ | refine IsS164.far ?_ NB539_549.out _) | exact HI539.out)) hb); clear hb hg; have hnb10 := NB549_534.out; have hnc10 := NB534_549.out; have hnb11 := NB549_535.out; have hnc11 := NB535_549.out; have hnb12 := NB549_550.out; have hnc12 := NB550_549.out; have hnb13 := NB549_539.out; have hnc13 := NB539_549.out; obtain ⟨hcz14_0, hcz14_1, hcz14_2, hfz14_0, hfz14_1, hfz14_2⟩ := ch3_ BK549; have hnb15 := NB550_534.out; have hnc15 := NB534_550.out; have hnb16 := NB550_535.out; have hnc16 := NB535_550.out; have hnb17 := NB550_539.out; have hnc17 := NB539_550.out; obtain ⟨hcz18_0, hcz18_1, hcz18_2, hfz18_0, hfz18_1, hfz18_2⟩ := ch3_ BK550))
 have n0_ : Aside0 (((((((w9.setCell ⟨gb549, 0, none⟩ (.int .i64 t541)).setCell ⟨gb549, 1, none⟩ (.int .i64 t542)).setCell ⟨gb549, 2, none⟩ (.int .i64 t543)).setCell ⟨gb550, 0, none⟩ (.int .i64 t544)).setCell ⟨gb550, 1, none⟩ (.int .i64 t545)).setCell ⟨gb550, 2, none⟩ (.int .i64 t546)).heap[gb534]? = some (.cells #[.int .i64 0, .int .i64 0, .int .i64 0] 25 (0, 0))) := bp_ BK534
 have n1_ : Aside0 (((((((w9.setCell ⟨gb549, 0, none⟩ (.int .i64 t541)).setCell ⟨gb549, 1, none⟩ (.int .i64 t542)).setCell ⟨gb549, 2, none⟩ (.int .i64 t543)).setCell ⟨gb550, 0, none⟩ (.int .i64 t544)).setCell ⟨gb550, 1, none⟩ (.int .i64 t545)).setCell ⟨gb550, 2, none⟩ (.int .i64 t546)).heap[gb535]? = some (.cells #[.int .i64 0, .int .i64 0, .int .i64 0] 25 (0, 0))) := bp_ BK535
 have n2_ : Aside0 (((((((w9.setCell ⟨gb549, 0, none⟩ (.int .i64 t541)).setCell ⟨gb549, 1, none⟩ (.int .i64 t542)).setCell ⟨gb549, 2, none⟩ (.int .i64 t543)).setCell ⟨gb550, 0, none⟩ (.int .i64 t544)).setCell ⟨gb550, 1, none⟩ (.int .i64 t545)).setCell ⟨gb550, 2, none⟩ (.int .i64 t546)).heap[gb549]? = some (.cells #[.int .i64 t541, .int .i64 t542, .int .i64 t543] 25 (0, 0))) := bp_ BK549
 have n3_ : Aside0 (((((((w9.setCell ⟨gb549, 0, none⟩ (.int .i64 t541)).setCell ⟨gb549, 1, none⟩ (.int .i64 t542)).setCell ⟨gb549, 2, none⟩ (.int .i64 t543)).setCell ⟨gb550, 0, none⟩ (.int .i64 t544)).setCell ⟨gb550, 1, none⟩ (.int .i64 t545)).setCell ⟨gb550, 2, none⟩ (.int .i64 t546)).heap[gb550]? = some (.cells #[.int .i64 t544, .int .i64 t545, .int .i64 t546] 25 (0, 0))) := bp_ BK550
 have n4_ : Aside0 (IsS164 w ((((((w9.setCell ⟨gb549, 0, none⟩ (.int .i64 t541)).setCell ⟨gb549, 1, none⟩ (.int .i64 t542)).setCell ⟨gb549, 2, none⟩ (.int .i64 t543)).setCell ⟨gb550, 0, none⟩ (.int .i64 t544)).setCell ⟨gb550, 1, none⟩ (.int .i64 t545)).setCell ⟨gb550, 2, none⟩ (.int .i64 t546)) g539 t536 t547 t548) := ⟨by repeat (first | (with_reducible first | exact HI539.out | apply IsS164.alloc | apply IsS164.drewN | apply IsS164.drew | apply IsS164.set_1 | apply IsS164.set_2 | refine IsS164.far ?_ NB539_534.out _ | refine IsS164.far ?_ NB539_535.out _ | refine IsS164.far ?_ NB539_549.out _ | refine IsS164.far ?_ NB539_550.out _) | exact HI539.out)⟩
 have n5_ : Aside0 (Below w.heap.size w ((((((w9.setCell ⟨gb549, 0, none⟩ (.int .i64 t541)).setCell ⟨gb549, 1, none⟩ (.int .i64 t542)).setCell ⟨gb549, 2, none⟩ (.int .i64 t543)).setCell ⟨gb550, 0, none⟩ (.int .i64 t544)).setCell ⟨gb550, 1, none⟩ (.int .i64 t545)).setCell ⟨gb550, 2, none⟩ (.int .i64 t546))) := ⟨by repeat (first | (with_reducible first | exact HB.out | apply below_alloc | apply pw_below_drewN | apply below_drew1 | refine below_set ?_ (IsS164.ge HI539.out) | refine below_set ?_ GE534.out | refine below_set ?_ GE535.out | refine below_set ?_ GE549.out | refine below_set ?_ GE550.out) | exact HB.out)⟩
 (try clear BK534)
 (try clear BK535)
 (try clear BK549)
 (try clear BK550)
 (try clear HI539)
 (try clear HB)
 generalize ((((((w9.setCell ⟨gb549, 0, none⟩ (.int .i64 t541)).setCell ⟨gb549, 1, none⟩ (.int .i64 t542)).setCell ⟨gb549, 2, none⟩ (.int .i64 t543)).setCell ⟨gb550, 0, none⟩ (.int .i64 t544)).setCell ⟨gb550, 1, none⟩ (.int .i64 t545)).setCell ⟨gb550, 2, none⟩ (.int .i64 t546)) = w19 at n0_ n1_ n2_ n3_ n4_ n5_ ⊢
 have BK534 := n0_
 have BK535 := n1_
 have BK549 := n2_
 have BK550 := n3_
 have HI539 := n4_
 have HB := n5_
 clear n0_ n1_ n2_ n3_ n4_ n5_
 replace BK534 := Aside0.mk (blk_drew BK534.out)
 replace BK535 := Aside0.mk (blk_drew BK535.out)
 replace BK549 := Aside0.mk (blk_drew BK549.out)
 replace BK550 := Aside0.mk (blk_drew BK550.out)
 replace HI539 := Aside0.mk (IsS164.drew HI539.out)
 replace HB := Aside0.mk (below_drew1 HB.out)
 refine start_ (n := 6) (S := fun w' => w'.cell? ⟨gb549, 0, none⟩ = some (.int .i64 t541) ∧ w'.cell? ⟨gb549, 1, none⟩ = some (.int .i64 t542) ∧ w'.cell? ⟨gb549, 2, none⟩ = some (.int .i64 t543) ∧ w'.cell? ⟨gb550, 0, none⟩ = some (.int .i64 t544) ∧ w'.cell? ⟨gb550, 1, none⟩ = some (.int .i64 t545) ∧ w'.cell? ⟨gb550, 2, none⟩ = some (.int .i64 t546)) (ds := []) (bv_ 6 0) (by kernel_rfl) rfl rfl ⟨cz_ BK549 0, cz_ BK549 1, cz_ BK549 2, cz_ BK550 0, cz_ BK550 1, cz_ BK550 2⟩ (fun hHeld => ?_)
 generalize w19.drew = w20 at BK534 BK535 BK549 BK550 HI539 HB hHeld ⊢
 refine pure_ (i := 0) (N := some 15) (v := ?_) (a' := ?_) (bv_ 6 1) rfl rfl (by kernel_rfl) (fun _ _ _ h => h) (Or.inl ⟨by rfl, ?_⟩) ?_ ?_
 rotate_left
 ·intro w'
  go_simp
  with_reducible rfl
 rotate_left
 ·simp only [Act.put, lstS, lstZ, lstC, i64_w, i32_w]
  rfl
 refine pure_ (i := 3) (N := some 2) (v := ?_) (a' := ?_) (bv_ 6 9) rfl rfl (by kernel_rfl) (fun _ _ _ h => h) (Or.inl ⟨by rfl, ?_⟩) ?_ ?_
 rotate_left
 ·intro w'
  go_simp
  with_reducible rfl
 rotate_left
 ·simp only [Act.put, lstS, lstZ, lstC, i64_w, i32_w]
  rfl
 refine take_ (i := 1) (N := some 16) (v := ?_) (a' := ?_) (bv_ 6 11) rfl rfl (by kernel_rfl) (fun _ _ _ h => h) (Or.inl ⟨by rfl, ?_⟩) hHeld ?_ ?_
 rotate_left
 ·rintro w' ⟨s0, s1, s2, s3, s4, s5⟩
  go_simp
  with_reducible rfl
 rotate_left
 ·simp only [Act.put, lstS, lstZ, lstC, i64_w, i32_w]
  rfl
 refine take_ (i := 2) (N := some 17) (v := ?_) (a' := ?_) (bv_ 6 15) rfl rfl (by kernel_rfl) (fun _ _ _ h => h) (Or.inl ⟨by rfl, ?_⟩) hHeld ?_ ?_
 rotate_left
 ·rintro w' ⟨s0, s1, s2, s3, s4, s5⟩
  go_simp
  with_reducible rfl
 rotate_left
 ·simp only [Act.put, lstS, lstZ, lstC, i64_w, i32_w]
  rfl
 refine one_ (i := 4) (N := none) (bv_ 6 31) rfl rfl (by kernel_rfl) (by decide) (fun K hK => ?_)
 have hs21 : w20.cell? ⟨gb534, 0, none⟩ = some (.int .i64 0) := (blk_cell BK534.out 0).trans rfl
 have hfs21 := blk_frozen BK534.out 0
 have hns21_1 := NB535_534.out
 have hns21_2 := NB549_534.out
 have hns21_3 := NB550_534.out
 have hms21_1 := NB534_535.out
 have hms21_2 := NB534_549.out
 have hms21_3 := NB534_550.out
 have hs22 : w20.cell? ⟨gb534, 1, none⟩ = some (.int .i64 0) := (blk_cell BK534.out 1).trans rfl
 have hfs22 := blk_frozen BK534.out 1
 have hns22_1 := NB535_534.out
 have hns22_2 := NB549_534.out
 have hns22_3 := NB550_534.out
 have hms22_1 := NB534_535.out
 have hms22_2 := NB534_549.out
 have hms22_3 := NB534_550.out
 have hs23 : w20.cell? ⟨gb534, 2, none⟩ = some (.int .i64 0) := (blk_cell BK534.out 2).trans rfl
 have hfs23 := blk_frozen BK534.out 2
 have hns23_1 := NB535_534.out
 have hns23_2 := NB549_534.out
 have hns23_3 := NB550_534.out
 have hms23_1 := NB534_535.out
 have hms23_2 := NB534_549.out
 have hms23_3 := NB534_550.out
 refine skip_ (w1 := ?_) (by rfl) rfl ?_ ?_
 rotate_left
 ·go_simp
  rfl
 refine hK.out _ _ ⟨(cg_ NB549_534 ((cg_ NB549_534 ((cg_ NB549_534 (hHeld.1)))))), (cg_ NB549_534 ((cg_ NB549_534 ((cg_ NB549_534 (hHeld.2.1)))))), (cg_ NB549_534 ((cg_ NB549_534 ((cg_ NB549_534 (hHeld.2.2.1)))))), (cg_ NB550_534 ((cg_ NB550_534 ((cg_ NB550_534 (hHeld.2.2.2.1)))))), (cg_ NB550_534 ((cg_ NB550_534 ((cg_ NB550_534 (hHeld.2.2.2.2.1)))))), (cg_ NB550_534 ((cg_ NB550_534 ((cg_ NB550_534 (hHeld.2.2.2.2.2))))))⟩ (fun hHeld => ?_)
 clear hK K
 refine one_ (i := 5) (N := none) (bv_ 6 63) rfl rfl (by kernel_rfl) (by decide) (fun K hK => ?_)
 have hs24 : w20.cell? ⟨gb535, 0, none⟩ = some (.int .i64 0) := (blk_cell BK535.out 0).trans rfl
 have hfs24 := blk_frozen BK535.out 0
 have hns24_0 := NB534_535.out
 have hns24_2 := NB549_535.out
 have hns24_3 := NB550_535.out
 have hms24_0 := NB535_534.out
 have hms24_2 := NB535_549.out
 have hms24_3 := NB535_550.out
 have hs25 : w20.cell? ⟨gb535, 1, none⟩ = some (.int .i64 0) := (blk_cell BK535.out 1).trans rfl
 have hfs25 := blk_frozen BK535.out 1
 have hns25_0 := NB534_535.out
 have hns25_2 := NB549_535.out
 have hns25_3 := NB550_535.out
 have hms25_0 := NB535_534.out
 have hms25_2 := NB535_549.out
 have hms25_3 := NB535_550.out
 have hs26 : w20.cell? ⟨gb535, 2, none⟩ = some (.int .i64 0) := (blk_cell BK535.out 2).trans rfl
 have hfs26 := blk_frozen BK535.out 2
 have hns26_0 := NB534_535.out
 have hns26_2 := NB549_535.out
 have hns26_3 := NB550_535.out
 have hms26_0 := NB535_534.out
 have hms26_2 := NB535_549.out
 have hms26_3 := NB535_550.out
 refine skip_ (w1 := ?_) (by rfl) rfl ?_ ?_
 rotate_left
 ·go_simp
  rfl
 refine hK.out _ _ ⟨(cg_ NB549_535 ((cg_ NB549_535 ((cg_ NB549_535 (hHeld.1)))))), (cg_ NB549_535 ((cg_ NB549_535 ((cg_ NB549_535 (hHeld.2.1)))))), (cg_ NB549_535 ((cg_ NB549_535 ((cg_ NB549_535 (hHeld.2.2.1)))))), (cg_ NB550_535 ((cg_ NB550_535 ((cg_ NB550_535 (hHeld.2.2.2.1)))))), (cg_ NB550_535 ((cg_ NB550_535 ((cg_ NB550_535 (hHeld.2.2.2.2.1)))))), (cg_ NB550_535 ((cg_ NB550_535 ((cg_ NB550_535 (hHeld.2.2.2.2.2))))))⟩ (fun hHeld => ?_)
 clear hK K
 refine done_ (by kernel_rfl) ?_
 try go_wp2
 refine bodyPost_ret (results_list (rs := [.tmp 2, .cell 3 25, .cell 4 25]) rfl (by simp) (.tmp (.cell gb534 25 #[.int .i64 t541, .int .i64 t542, .int .i64 t543] (0, 0) _ rfl (bp_ BK534).out Try.underlying25 rfl (by kernel_rfl) (.cell gb535 25 #[.int .i64 t544, .int .i64 t545, .int .i64 t546] (0, 0) _ rfl (bp_ BK535).out Try.underlying25 rfl (by kernel_rfl) .nil)))) rfl ?_
 exact ⟨es_, by repeat (first | (with_reducible first | exact HB.out | apply below_alloc | apply pw_below_drewN | apply below_drew1 | refine below_set ?_ (IsS164.ge HI539.out) | refine below_set ?_ GE534.out | refine below_set ?_ GE535.out | refine below_set ?_ GE549.out | refine below_set ?_ GE550.out) | exact HB.out)⟩
/-! ### impl_areBalls: function 86 -/
def impl_areBalls.l0 : Nat → Int → List (S25) → Int → Int → Option (Bool)
 | 0, _, _, _, _ => none
 | k + 1, x0, x7, x8, x9 => if x9 < x8 then (if 0 ≤ x9 then (if x9 < (x7.length : Int) then ((impl_IsBall.f k x0 ((rd_T25 x7 x9).f0) ((rd_T25 x7 x9).f1) ((rd_T25 x7 x9).f2)).bind fun t553 => (if t553 = true then (impl_areBalls.l0 k x0 x7 x8 (wrap64 (x9 + 1))) else (some false))) else (none)) else (none)) else ((impl_isPrime.f x0).bind fun t554 => (some t554))
def impl_areBalls.f (k : Nat) (a0 : Int) (l1 : List (S25)) : Option (Bool) := impl_areBalls.l0 k a0 l1 (l1.length : Int) 0
theorem impl_areBalls.calls (k : Nat) (a0 : Int) (A1 : Option Addr) (c1 : Nat) (l1 : List (S25)) (r : Bool) (w : World) (hr1 : Kd.C k25 w A1 l1.length l1) (hc1 : l1.length ≤ c1) (h : impl_areBalls.f k a0 l1 = some r) :
  Calls Try.prog 86 #[.int .i64 a0, .slice A1 l1.length c1] w fun e w' => e = .returned (.bool r) ∧ Below w.heap.size w w' := by
 have hu25 := Try.underlying25
 have HR1 := Aside0.mk hr1
 have HC1 := Aside0.mk hc1
 clear hr1 hc1
 have HB := Aside0.mk (Below.refl w.heap.size w)
 have H : (impl_areBalls.l0 k a0 l1 (l1.length : Int) 0) = some r := h
 clear h
 have H' := Aside0.mk H
 clear H
 go_enter Try.func86, Try.ntmps86
 go_wp2
 go_loopg [9] k (fun kq v9 w' => ∃ (x9_1 : Int), v9 = .int .i64 x9_1 ∧ Aside0 (impl_areBalls.l0 kq a0 l1 (l1.length : Int) x9_1 = some r) ∧ Aside0 (kq ≤ k) ∧ Aside0 (Below w.heap.size w w'))
 case atStart => exact ⟨(0), en_, H', ⟨Nat.le_refl _⟩, bw_ HB⟩
 case round =>
  clear H'
  try clear c1
  try clear p2
  obtain ⟨x9_1, rfl, HA, HK1, HB⟩ := hrel
  cases gk with
  | zero => exact absurd HA.out (by simp [impl_areBalls.l0])
  | succ k1 =>
   have H := HA.out
   clear HA
   simp only [impl_areBalls.l0] at H
   by_cases c3 : x9_1 < (l1.length : Int)
   ·rw [if_pos c3] at H
    have c3b0 : decide (x9_1 < (l1.length : Int)) = true := decide_eq_true c3
    clear c3
    by_cases c4 : 0 ≤ x9_1
    ·rw [if_pos c4] at H
     have c4b0 : decide (0 ≤ x9_1) = true := decide_eq_true c4
     clear c4
     by_cases c5 : x9_1 < (l1.length : Int)
     ·rw [if_pos c5] at H
      have c5b0 : decide (x9_1 < (l1.length : Int)) = true := decide_eq_true c5
      clear c5
      replace H := ob_ H
      obtain ⟨t553, A60, H⟩ := H
      have A6 := Aside0.mk A60
      clear A60
      by_cases c7 : t553 = true
      ·subst c7
       have H1 : (impl_areBalls.l0 k1 a0 l1 (l1.length : Int) (wrap64 (x9_1 + 1))) = some r := by rw [if_pos rfl] at H; exact H
       clear H
       have H := H1
       clear H1
       have H' := Aside0.mk H
       clear H
       have p551 : 0 ≤ (x9_1 : Int) := od_
       have q551 : x9_1 < (l1.length : Int) := od_
       obtain ⟨ad551, e551, hx551_0, hx551_1, hx551_2⟩ := at_T25 HR1.out x9_1 p551 q551
       cases e551
       replace hx551_0 := clTr HB.out hx551_0
       replace hx551_1 := clTr HB.out hx551_1
       replace hx551_2 := clTr HB.out hx551_2
       replace p551 := eq_true p551
       replace q551 := eq_true q551
       go_wp2_with (first | ((refine gd_ 6 ?_); refine bx_ 6 #[.int .i64 0, .int .i64 0, .int .i64 0] 25 ?_; intro gb552 hg w8 BK552 hb; have GW552 := bs_ HB hg; have GE552 := bs_ HB hg; replace HB := bt_ HB hb; clear hb hg; obtain ⟨hcz9_0, hcz9_1, hcz9_2, hfz9_0, hfz9_1, hfz9_2⟩ := ch3_ BK552) | ((refine gc_ 94 ?_); refine ge_ 15 Try.func94 #[.int .i64 a0, .agg #[.int .i64 ((rd_T25 l1 x9_1).f0), .int .i64 ((rd_T25 l1 x9_1).f1), .int .i64 ((rd_T25 l1 x9_1).f2)]] ?_; (with_reducible refine (impl_IsBall.calls k1 a0 ((rd_T25 l1 x9_1).f0) ((rd_T25 l1 x9_1).f1) ((rd_T25 l1 x9_1).f2) true _ A6.out).mono ?_); rintro e w10 ⟨rfl, hb⟩; refine ⟨_, rfl, ?_⟩; replace BK552 := Aside0.mk (blk_below (g := gb552) (o := .cells #[.int .i64 ((rd_T25 l1 x9_1).f0), .int .i64 ((rd_T25 l1 x9_1).f1), .int .i64 ((rd_T25 l1 x9_1).f2)] 25 (0, 0)) (bp_ BK552).out hb); replace HB := bt_ HB hb; (try clear hb)))
       go_roundg k1
       case measure => have := HK1.out; omega
       case rel => exact ⟨(wrap64 (x9_1 + 1)), en_, H', ⟨by have := HK1.out; omega⟩, bw_ HB⟩
      ·replace c7 := Bool.eq_false_iff.mpr c7
       subst c7
       have H1 : (some false) = some r := by rw [if_neg (show ¬ (false = true) by decide)] at H; exact H
       clear H
       have H := H1
       clear H1
       obtain rfl := si_ H
       have p551 : 0 ≤ (x9_1 : Int) := od_
       have q551 : x9_1 < (l1.length : Int) := od_
       obtain ⟨ad551, e551, hx551_0, hx551_1, hx551_2⟩ := at_T25 HR1.out x9_1 p551 q551
       cases e551
       replace hx551_0 := clTr HB.out hx551_0
       replace hx551_1 := clTr HB.out hx551_1
       replace hx551_2 := clTr HB.out hx551_2
       replace p551 := eq_true p551
       replace q551 := eq_true q551
       go_wp2_with (first | ((refine gd_ 6 ?_); refine bx_ 6 #[.int .i64 0, .int .i64 0, .int .i64 0] 25 ?_; intro gb552 hg w11 BK552 hb; have GW552 := bs_ HB hg; have GE552 := bs_ HB hg; replace HB := bt_ HB hb; clear hb hg; obtain ⟨hcz12_0, hcz12_1, hcz12_2, hfz12_0, hfz12_1, hfz12_2⟩ := ch3_ BK552) | ((refine gc_ 94 ?_); refine ge_ 15 Try.func94 #[.int .i64 a0, .agg #[.int .i64 ((rd_T25 l1 x9_1).f0), .int .i64 ((rd_T25 l1 x9_1).f1), .int .i64 ((rd_T25 l1 x9_1).f2)]] ?_; (with_reducible refine (impl_IsBall.calls k1 a0 ((rd_T25 l1 x9_1).f0) ((rd_T25 l1 x9_1).f1) ((rd_T25 l1 x9_1).f2) false _ A6.out).mono ?_); rintro e w13 ⟨rfl, hb⟩; refine ⟨_, rfl, ?_⟩; replace BK552 := Aside0.mk (blk_below (g := gb552) (o := .cells #[.int .i64 ((rd_T25 l1 x9_1).f0), .int .i64 ((rd_T25 l1 x9_1).f1), .int .i64 ((rd_T25 l1 x9_1).f2)] 25 (0, 0)) (bp_ BK552).out hb); replace HB := bt_ HB hb; (try clear hb)))
       go_ret
       exact ⟨es_, (bw_ HB).out⟩
     ·rw [if_neg c5] at H
      exact absurd H (by simp)
    ·rw [if_neg c4] at H
     exact absurd H (by simp)
   ·rw [if_neg c3] at H
    have c3b0 : decide (x9_1 < (l1.length : Int)) = false := decide_eq_false c3
    clear c3
    replace H := ob_ H
    obtain ⟨t554, A140, H⟩ := H
    have A14 := Aside0.mk A140
    clear A140
    obtain rfl := si_ H
    go_wp2_with (first | ((refine gc_ 118 ?_); refine ge_ 19 Try.func118 #[.int .i64 a0] ?_; (with_reducible refine (impl_isPrime.calls a0 t554 _ A14.out).mono ?_); rintro e w' ⟨rfl, ⟨nd, rfl⟩⟩; refine ⟨_, rfl, ?_⟩))
    go_ret
    exact ⟨es_, (bw_ HB).out⟩
/-! ### impl_joinLevel: function 159 -/
def impl_joinLevel.f (k : Nat) (a0 : Int) (a1_0 : Int) (a1_1 : Int) (a1_2 : Int) (a2_0 : Int) (a2_1 : Int) (a2_2 : Int) : Option (Int) := (impl_mark.f k a0 a1_0 a1_1 a1_2).bind fun t557 => ((impl_mark.f k a0 a2_0 a2_1 a2_2).bind fun t558 => ((impl_valuation.f k a0 (wrap64 (t557 - t558))).bind fun t559 => (some (mn (mn a1_0 a2_0) (wrap64 (t559 - 6))))))
def impl_joinLevel.T1 : Bool × List (List Nat × List Nat) := (true, [([], []), ([0], [0]), ([], []), ([2], [2]), ([], []), ([], []), ([], []), ([5, 6], [5, 6]), ([], []), ([], []), ([8, 9, 7], [8, 9]), ([7, 10], [7, 10]), ([4, 11, 10], [4, 11]), ([12], [12]), ([1, 3, 13], [1, 3, 13]), ([14, 12, 0, 1, 2, 3, 4, 5, 6, 7, 8, 9, 10, 11, 12, 13, 14], [14])])
def impl_joinLevel.B1 : List Nat := [0, 1, 0, 4, 0, 0, 0, 96, 0, 0, 992, 2016, 4080, 8176, 16383, 32767]
theorem impl_joinLevel.tab1 : rtab .any (opsOf Try.f159 1) = impl_joinLevel.T1 := by kernel_rfl
theorem impl_joinLevel.bits1 : waitsOk impl_joinLevel.T1.2 impl_joinLevel.B1 = true := by kernel_rfl
theorem impl_joinLevel.calls (k : Nat) (a0 : Int) (a1_0 : Int) (a1_1 : Int) (a1_2 : Int) (a2_0 : Int) (a2_1 : Int) (a2_2 : Int) (r : Int) (w : World) (h : impl_joinLevel.f k a0 a1_0 a1_1 a1_2 a2_0 a2_1 a2_2 = some r) :
  Calls Try.prog 159 #[.int .i64 a0, .agg #[.int .i64 a1_0, .int .i64 a1_1, .int .i64 a1_2], .agg #[.int .i64 a2_0, .int .i64 a2_1, .int .i64 a2_2]] w fun e w' => e = .returned (.int .i64 r) ∧ Below w.heap.size w w' := by
 have hu25 := Try.underlying25
 have HB := Aside0.mk (Below.refl w.heap.size w)
 have H : ((impl_mark.f k a0 a1_0 a1_1 a1_2).bind fun t557 => ((impl_mark.f k a0 a2_0 a2_1 a2_2).bind fun t558 => ((impl_valuation.f k a0 (wrap64 (t557 - t558))).bind fun t559 => (some (mn (mn a1_0 a2_0) (wrap64 (t559 - 6))))))) = some r := h
 clear h
 replace H := ob_ H
 obtain ⟨t557, A40, H⟩ := H
 have A4 := Aside0.mk A40
 clear A40
 replace H := ob_ H
 obtain ⟨t558, A50, H⟩ := H
 have A5 := Aside0.mk A50
 clear A50
 replace H := ob_ H
 obtain ⟨t559, A60, H⟩ := H
 have A6 := Aside0.mk A60
 clear A60
 obtain ⟨ji7, hji7⟩ : ∃ j_ : Int, (mn a1_0 a2_0) = j_ := ⟨_, rfl⟩
 replace H : (some (mn (ji7) (wrap64 (t559 - 6)))) = some r := by first | (rw [hji7] at H; exact H) | (simp only [hji7] at H ⊢; exact H)
 (try rw [hji7] at A4)
 (try rw [hji7] at A5)
 (try rw [hji7] at A6)
 have hji7_ : (if a2_0 < a1_0 then a2_0 else a1_0) = ji7 := hji7
 obtain ⟨ji8, hji8⟩ : ∃ j_ : Int, (mn (ji7) (wrap64 (t559 - 6))) = j_ := ⟨_, rfl⟩
 replace H : (some ji8) = some r := by first | (rw [hji8] at H; exact H) | (simp only [hji8] at H ⊢; exact H)
 (try rw [hji8] at A4)
 (try rw [hji8] at A5)
 (try rw [hji8] at A6)
 have hji8_ : (if (wrap64 (t559 - 6)) < (ji7) then (wrap64 (t559 - 6)) else (ji7)) = ji8 := hji8
 obtain rfl := si_ H
 go_enter Try.func159, Try.ntmps159
 try go_wp2_with (first | ((refine gd_ 4 ?_); refine bx_ 4 #[.int .i64 a1_0, .int .i64 a1_1, .int .i64 a1_2] 25 ?_; intro gb555 hg w9 BK555 hb; have GW555 := bs_ HB hg; have GE555 := bs_ HB hg; replace HB := bt_ HB hb; clear hb hg) | ((refine gd_ 5 ?_); refine bx_ 5 #[.int .i64 a2_0, .int .i64 a2_1, .int .i64 a2_2] 25 ?_; intro gb556 hg w10 BK556 hb; have GW556 := bs_ HB hg; have GE556 := bs_ HB hg; have NB555_556 := bm_ BK555 hg; have NB556_555 := bn_ BK555 hg; replace BK555 := bb_ BK555 hb; replace HB := bt_ HB hb; clear hb hg))
 replace BK555 := Aside0.mk (blk_drew BK555.out)
 replace BK556 := Aside0.mk (blk_drew BK556.out)
 replace HB := Aside0.mk (below_drew1 HB.out)
 refine start_ (n := 16) (S := fun w' => w'.cell? ⟨gb555, 0, none⟩ = some (.int .i64 a1_0) ∧ w'.cell? ⟨gb555, 1, none⟩ = some (.int .i64 a1_1) ∧ w'.cell? ⟨gb555, 2, none⟩ = some (.int .i64 a1_2) ∧ w'.cell? ⟨gb556, 0, none⟩ = some (.int .i64 a2_0) ∧ w'.cell? ⟨gb556, 1, none⟩ = some (.int .i64 a2_1) ∧ w'.cell? ⟨gb556, 2, none⟩ = some (.int .i64 a2_2)) (ds := []) (bv_ 16 0) (by kernel_rfl) rfl rfl ⟨cz_ BK555 0, cz_ BK555 1, cz_ BK555 2, cz_ BK556 0, cz_ BK556 1, cz_ BK556 2⟩ (fun hHeld => ?_); refine with_tabW impl_joinLevel.tab1 impl_joinLevel.bits1 (fun HT_ HW_ => ?_)
 generalize w10.drew = w11 at BK555 BK556 HB hHeld ⊢
 refine px_ HT_ 0 7 1 ?_
 refine px_ HT_ 2 9 5 ?_
 refine px_ HT_ 4 11 21 ?_
 refine px_ HT_ 5 12 53 ?_
 refine px_ HT_ 8 15 309 ?_
 refine ta_ HT_ HW_ 1 (some 8) (bv_ 16 311) hHeld ?_ (hy := by rintro w' ⟨s0, s1, s2, s3, s4, s5⟩; go_simp; with_reducible rfl)
 refine ta_ HT_ HW_ 3 (some 10) (bv_ 16 319) hHeld ?_ (hy := by rintro w' ⟨s0, s1, s2, s3, s4, s5⟩; go_simp; with_reducible rfl)
 refine ta_ HT_ HW_ 6 (some 13) (bv_ 16 383) hHeld ?_ (hy := by rintro w' ⟨s0, s1, s2, s3, s4, s5⟩; go_simp; with_reducible rfl)
 refine ta_ HT_ HW_ 9 (some 16) (bv_ 16 895) hHeld ?_ (hy := by rintro w' ⟨s0, s1, s2, s3, s4, s5⟩; go_simp; with_reducible rfl)
 refine on_ HT_ 7 (some 14) (bv_ 16 1023) (fun K hK => ?_)
 refine gs_ Try.func163 #[.int .i64 a0, .agg #[.int .i64 a1_0, .int .i64 a1_1, .int .i64 a1_2]] ?_
 with_reducible refine (impl_mark.calls k a0 a1_0 a1_1 a1_2 t557 _ A4.out).mono ?_
 rintro e w12 ⟨rfl, hb⟩
 refine ⟨_, rfl, ?_⟩
 replace BK555 := bb_ BK555 hb
 replace BK556 := bb_ BK556 hb
 replace HB := bt_ HB hb
 (try clear hb)
 (try clear hb2)
 (try clear hk)
 (try clear hi)
 refine hK.out _ _ ⟨cz_ BK555 0, cz_ BK555 1, cz_ BK555 2, cz_ BK556 0, cz_ BK556 1, cz_ BK556 2⟩ (fun hHeld => ?_)
 clear hK K
 refine nm_ (some 14) ?_
 refine on_ HT_ 10 (some 17) (bv_ 16 2047) (fun K hK => ?_)
 refine gs_ Try.func163 #[.int .i64 a0, .agg #[.int .i64 a2_0, .int .i64 a2_1, .int .i64 a2_2]] ?_
 with_reducible refine (impl_mark.calls k a0 a2_0 a2_1 a2_2 t558 _ A5.out).mono ?_
 rintro e w13 ⟨rfl, hb⟩
 refine ⟨_, rfl, ?_⟩
 replace BK555 := bb_ BK555 hb
 replace BK556 := bb_ BK556 hb
 replace HB := bt_ HB hb
 (try clear hb)
 (try clear hb2)
 (try clear hk)
 (try clear hi)
 refine hK.out _ _ ⟨cz_ BK555 0, cz_ BK555 1, cz_ BK555 2, cz_ BK556 0, cz_ BK556 1, cz_ BK556 2⟩ (fun hHeld => ?_)
 clear hK K
 refine nm_ (some 17) ?_
 refine px_ HT_ 11 18 4095 ?_
 refine on_ HT_ 12 (some 19) (bv_ 16 8191) (fun K hK => ?_)
 refine gs_ Try.func164 #[.int .i64 a0, .int .i64 (wrap64 (t557 - t558))] ?_
 with_reducible refine (impl_valuation.calls k a0 (wrap64 (t557 - t558)) t559 _ A6.out).mono ?_
 rintro e w' ⟨rfl, ⟨nd, rfl⟩⟩
 refine ⟨_, rfl, ?_⟩
 refine hK.out _ _ ⟨cz_ BK555 0, cz_ BK555 1, cz_ BK555 2, cz_ BK556 0, cz_ BK556 1, cz_ BK556 2⟩ (fun hHeld => ?_)
 clear hK K
 refine nm_ (some 19) ?_
 refine px_ HT_ 13 20 16383 ?_
 refine px_ HT_ 14 21 32767 ?_
 refine px_ HT_ 15 6 65535 ?_
 refine done_ (done_of HT_.out (by kernel_rfl)) ?_
 try go_wp2
 go_ret
 exact ⟨by first | rfl | (simp [errW_none, errW_some] <;> rfl) | (simp only [← hji7, ← hji8]; first | rfl | (simp [errW_none, errW_some] <;> rfl)) | (simp [*, errW_none, errW_some] <;> rfl), (bw_ HB).out⟩
/-! ### impl_above: function 168 -/
def impl_above.f (k : Nat) (a0 : Int) (a1_0 : Int) (a1_1 : Int) (a1_2 : Int) (a2 : Int) : Option (Int × Int × Int) := (impl_mark.f k a0 a1_0 a1_1 a1_2).bind fun t562 => ((impl_ofMark.f k a0 a2 t562).bind fun bt563 => (some (bt563.1, bt563.2.1, bt563.2.2.1)))
theorem impl_above.calls (k : Nat) (a0 : Int) (a1_0 : Int) (a1_1 : Int) (a1_2 : Int) (a2 : Int) (r1 : Int) (r2 : Int) (r3 : Int) (w : World) (h : impl_above.f k a0 a1_0 a1_1 a1_2 a2 = some (r1, r2, r3)) :
  Calls Try.prog 168 #[.int .i64 a0, .agg #[.int .i64 a1_0, .int .i64 a1_1, .int .i64 a1_2], .int .i64 a2] w fun e w' => e = .returned (.agg #[.int .i64 r1, .int .i64 r2, .int .i64 r3]) ∧ Below w.heap.size w w' := by
 have hu25 := Try.underlying25
 have HB := Aside0.mk (Below.refl w.heap.size w)
 have H : ((impl_mark.f k a0 a1_0 a1_1 a1_2).bind fun t562 => ((impl_ofMark.f k a0 a2 t562).bind fun bt563 => (some (bt563.1, bt563.2.1, bt563.2.2.1)))) = some (r1, r2, r3) := h
 clear h
 replace H := ob_ H
 obtain ⟨t562, A40, H⟩ := H
 have A4 := Aside0.mk A40
 clear A40
 replace H := ob_ H
 obtain ⟨⟨t563, t564, t565, t566⟩, A50, H⟩ := H
 have A5 := Aside0.mk A50
 clear A50
 simp only [Option.some.injEq, Prod.mk.injEq] at H
 obtain ⟨rfl, rfl, rfl⟩ := H
 go_enter Try.func168, Try.ntmps168
 go_wp2_with (first | ((refine gd_ 4 ?_); refine bx_ 4 #[.int .i64 a1_0, .int .i64 a1_1, .int .i64 a1_2] 25 ?_; intro gb560 hg w6 BK560 hb; have GW560 := bs_ HB hg; have GE560 := bs_ HB hg; replace HB := bt_ HB hb; clear hb hg) | ((refine gd_ 6 ?_); refine bx_ 6 #[.int .i64 0, .int .i64 0, .int .i64 0] 25 ?_; intro gb561 hg w7 BK561 hb; have GW561 := bs_ HB hg; have GE561 := bs_ HB hg; have NB560_561 := bm_ BK560 hg; have NB561_560 := bn_ BK560 hg; replace BK560 := bb_ BK560 hb; replace HB := bt_ HB hb; clear hb hg; have hnb8 := NB560_561.out; have hnc8 := NB561_560.out; obtain ⟨hcz9_0, hcz9_1, hcz9_2, hfz9_0, hfz9_1, hfz9_2⟩ := ch3_ BK560) | ((refine gc_ 163 ?_); refine ge_ 14 Try.func163 #[.int .i64 a0, .agg #[.int .i64 a1_0, .int .i64 a1_1, .int .i64 a1_2]] ?_; (with_reducible refine (impl_mark.calls k a0 a1_0 a1_1 a1_2 t562 _ A4.out).mono ?_); rintro e w10 ⟨rfl, hb⟩; refine ⟨_, rfl, ?_⟩; replace BK560 := bb_ BK560 hb; replace BK561 := bb_ BK561 hb; replace HB := bt_ HB hb; (try clear hb)) | ((refine gc_ 192 ?_); refine ge_ 15 Try.func192 #[.int .i64 a0, .int .i64 a2, .int .i64 t562] ?_; (with_reducible refine (impl_ofMark.calls k a0 a2 t562 t563 t564 t565 t566 _ A5.out).mono ?_); rintro e w11 ⟨rfl, hb⟩; refine ⟨_, rfl, ?_⟩; replace BK560 := bb_ BK560 hb; replace BK561 := bb_ BK561 hb; replace HB := bt_ HB hb; (try clear hb)) | ((refine gd_ 7 ?_); refine bx_ 7 #[.int .i64 0, .int .i64 0, .int .i64 0] 25 ?_; intro gb567 hg w12 BK567 hb; have GW567 := bs_ HB hg; have GE567 := bs_ HB hg; have NB560_567 := bm_ BK560 hg; have NB567_560 := bn_ BK560 hg; have NB561_567 := bm_ BK561 hg; have NB567_561 := bn_ BK561 hg; replace BK560 := bb_ BK560 hb; replace BK561 := bb_ BK561 hb; replace HB := bt_ HB hb; clear hb hg; have hnb13 := NB567_560.out; have hnc13 := NB560_567.out; have hnb14 := NB567_561.out; have hnc14 := NB561_567.out; obtain ⟨hcz15_0, hcz15_1, hcz15_2, hfz15_0, hfz15_1, hfz15_2⟩ := ch3_ BK567; obtain ⟨hcz16_0, hcz16_1, hcz16_2, hfz16_0, hfz16_1, hfz16_2⟩ := ch3_ BK561))
 refine bodyPost_ret (results_cell_row rfl _ _ gb561 25 #[.int .i64 t563, .int .i64 t564, .int .i64 t565] (0, 0) _ rfl (bp_ BK561).out Try.underlying25 rfl (by kernel_rfl)) rfl ?_
 exact ⟨es_, (bw_ HB).out⟩
end Go.Proofs.Ytgoeelhiffbjlaa.QR
