import Derived.Test.YtgoeelhiffbjlaaQRx8
import Derived.Test.YtgoeelhiffbjlaaQRx12
import Derived.Test.YtgoeelhiffbjlaaQRx14
import Derived.Test.YtgoeelhiffbjlaaQRx15
import Derived.Test.YtgoeelhiffbjlaaQRx33
import Derived.Test.YtgoeelhiffbjlaaQRx37
import Derived.Test.YtgoeelhiffbjlaaQRx54
import Derived.Test.YtgoeelhiffbjlaaQRx56
namespace Go.Proofs.Ytgoeelhiffbjlaa.QR
open Go.RowKit Go.Proofs.YtgoeelhiffbjlaaW.PrintWords Go.Proofs.YtgoeelhiffbjlaaW.PrintLast Go.Proofs.YtgoeelhiffbjlaaW.PrintMore
attribute [local go_sem] isSome_setCell max2_int min2_int max_two min_two max_three min_three max_four min_four
set_option linter.unusedVariables false
set_option linter.unusedSimpArgs false

/-! ### spec_l02Two: function 85 -/
mutual
def spec_l02Two.j0 : Nat → Int → Bool → List Int → Int → Int → Int → Int → Int → Int → Int → Int → Option (Int × Int × Int × Int × Int × Int × Int × Int × Int)
 | 0, _, _, _, _, _, _, _, _, _, _, _ => none
 | k + 1, x5, x31, x1000, x1001, x1002, x501000, x501001, x501002, x508000, x508001, x508002 => if x31 = true then ((spec_l01Next.f x1000 x1001 x1002 5).bind fun bt513 => (spec_l02Two.l0 k x5 bt513.1 x1000 bt513.2.1 bt513.2.2 x501000 x501001 x501002 x501000 x501001 x501002)) else ((spec_l01Bad.f x1000 x1001 x1002 x508000 x508001 x508002).bind fun bt529 => (some (x5, x501000, x501001, x501002, bt529.1, bt529.2.1, bt529.2.2.1, bt529.2.2.2.1, bt529.2.2.2.2)))
def spec_l02Two.l0 : Nat → Int → Int → List Int → Int → Int → Int → Int → Int → Int → Int → Int → Option (Int × Int × Int × Int × Int × Int × Int × Int × Int)
 | 0, _, _, _, _, _, _, _, _, _, _, _ => none
 | k + 1, x5, x8, x1000, x1001, x1002, x501000, x501001, x501002, x508000, x508001, x508002 => if x8 > 0 then ((spec_l02Near.f k x5 x508000 x508001 x508002).bind fun bt521 => (if bt521.2 = true then ((spec_l01Next.f x1000 x1001 x1002 (wrap64 (x5 + 1))).bind fun bt525 => (if 0 ≤ bt525.1 then (if bt525.1 < (bt521.1.length : Int) then (spec_l02Two.l0 k x5 (wrap64 (x8 - 1)) x1000 bt525.2.1 bt525.2.2 x501000 x501001 x501002 ((rd_T25 bt521.1 bt525.1).f0) ((rd_T25 bt521.1 bt525.1).f1) ((rd_T25 bt521.1 bt525.1).f2)) else (none)) else (none))) else (spec_l02Two.l0 k x5 (wrap64 (x8 - 1)) x1000 x1001 x1002 x501000 x501001 x501002 x508000 x508001 x508002))) else ((spec_l01Bad.f x1000 x1001 x1002 x508000 x508001 x508002).bind fun bt516 => (some (x5, x501000, x501001, x501002, bt516.1, bt516.2.1, bt516.2.2.1, bt516.2.2.2.1, bt516.2.2.2.2)))
end
def spec_l02Two.f (k : Nat) (s0_0 : List Int) (s0_1 : Int) (s0_2 : Int) : Option (Int × Int × Int × Int × Int × Int × Int × Int × Int) := (spec_l01Spoil.f k s0_0 s0_1 s0_2).bind fun bt494 => ((spec_l02Fine.f bt494.1).bind fun t501 => ((spec_l01Draw.f k s0_0 bt494.2.2.2.2.1 bt494.2.2.2.2.2 t501).bind fun bt502 => ((spec_l01Prime.f bt494.1).bind fun t508 => (if t508 = true then ((spec_l01Is.f k bt494.1 bt494.2.1 bt494.2.2.1 bt494.2.2.2.1).bind fun t509 => (if t509 = true then ((spec_l01Next.f s0_0 bt502.2.2.2.1 bt502.2.2.2.2 2).bind fun bt510 => (spec_l02Two.j0 k bt494.1 (bt510.1 == 0) s0_0 bt510.2.1 bt510.2.2 bt494.2.1 bt494.2.2.1 bt494.2.2.2.1 bt502.1 bt502.2.1 bt502.2.2.1)) else (spec_l02Two.j0 k bt494.1 false s0_0 bt502.2.2.2.1 bt502.2.2.2.2 bt494.2.1 bt494.2.2.1 bt494.2.2.2.1 bt502.1 bt502.2.1 bt502.2.2.1))) else (spec_l02Two.j0 k bt494.1 false s0_0 bt502.2.2.2.1 bt502.2.2.2.2 bt494.2.1 bt494.2.2.1 bt494.2.2.2.1 bt502.1 bt502.2.1 bt502.2.2.1)))))
def spec_l02Two.T11 : Bool × List (List Nat × List Nat) := (true, [([], []), ([], []), ([], []), ([], []), ([2, 3], [2, 3]), ([0, 4, 0], [0]), ([1, 5, 0, 1, 5], [1]), ([4, 6, 0, 1, 2, 3, 4, 5, 6], [4])])
def spec_l02Two.B11 : List Nat := [0, 0, 0, 0, 12, 29, 63, 127]
theorem spec_l02Two.tab11 : rtab .any (opsOf Try.f85 11) = spec_l02Two.T11 := by kernel_rfl
theorem spec_l02Two.bits11 : waitsOk spec_l02Two.T11.2 spec_l02Two.B11 = true := by kernel_rfl
set_option maxHeartbeats 8000000 in
set_option maxRecDepth 100000 in
theorem spec_l02Two.calls (k : Nat) (g : Nat) (s0_0 : List Int) (s0_1 : Int) (s0_2 : Int) (r1 : Int) (r2 : Int) (r3 : Int) (r4 : Int) (r5 : Int) (r6 : Int) (r7 : Int) (r8 : Int) (r9 : Int) (w0 w : World) (hI : IsS164 w0 w g s0_0 s0_1 s0_2) (hB : Below w0.heap.size w0 w) (h : spec_l02Two.f k s0_0 s0_1 s0_2 = some (r1, r2, r3, r4, r5, r6, r7, r8, r9)) :
  Calls Try.prog 85 #[.pointer (some ⟨g, 0, none⟩)] w fun e w' => e = .returned (.tuple #[.int .i64 r1, .agg #[.int .i64 r2, .int .i64 r3, .int .i64 r4], .agg #[.int .i64 r5, .int .i64 r6, .int .i64 r7]]) ∧ IsS164 w0 w' g s0_0 r8 r9 ∧ Below w0.heap.size w0 w' ∧ KeepBut w w' g none := by
 have hu25 := Try.underlying25
 have HI0 := Aside0.mk hI
 have HK := Aside0.mk (KeepBut.refl w g none)
 have HL := Aside0.mk hB.size
 clear hI
 have HW0 := Aside0.mk hB.size
 have HB := Aside0.mk hB
 clear hB
 have H : ((spec_l01Spoil.f k s0_0 s0_1 s0_2).bind fun bt494 => ((spec_l02Fine.f bt494.1).bind fun t501 => ((spec_l01Draw.f k s0_0 bt494.2.2.2.2.1 bt494.2.2.2.2.2 t501).bind fun bt502 => ((spec_l01Prime.f bt494.1).bind fun t508 => (if t508 = true then ((spec_l01Is.f k bt494.1 bt494.2.1 bt494.2.2.1 bt494.2.2.2.1).bind fun t509 => (if t509 = true then ((spec_l01Next.f s0_0 bt502.2.2.2.1 bt502.2.2.2.2 2).bind fun bt510 => (spec_l02Two.j0 k bt494.1 (bt510.1 == 0) s0_0 bt510.2.1 bt510.2.2 bt494.2.1 bt494.2.2.1 bt494.2.2.2.1 bt502.1 bt502.2.1 bt502.2.2.1)) else (spec_l02Two.j0 k bt494.1 false s0_0 bt502.2.2.2.1 bt502.2.2.2.2 bt494.2.1 bt494.2.2.1 bt494.2.2.2.1 bt502.1 bt502.2.1 bt502.2.2.1))) else (spec_l02Two.j0 k bt494.1 false s0_0 bt502.2.2.2.1 bt502.2.2.2.2 bt494.2.1 bt494.2.2.1 bt494.2.2.2.1 bt502.1 bt502.2.1 bt502.2.2.1)))))) = some (r1, r2, r3, r4, r5, r6, r7, r8, r9) := h
 clear h
 replace H := ob_ H
 obtain ⟨⟨t494, t495, t496, t497, t498, t499⟩, A20, H⟩ := H
 have A2 := Aside0.mk A20
 clear A20
 replace H := ob_ H
 obtain ⟨t501, A30, H⟩ := H
 have A3 := Aside0.mk A30
 clear A30
 replace H := ob_ H
 obtain ⟨⟨t502, t503, t504, t505, t506⟩, A40, H⟩ := H
 have A4 := Aside0.mk A40
 clear A40
 have HC5 := Aside0.mk H
 clear H
 go_enter Try.func85, Try.ntmps85
 go_upto_region 3 with (first | ((refine gd_ 3 ?_); refine bx_ 3 #[.int .i64 0, .int .i64 0, .int .i64 0] 25 ?_; intro gb492 hg w6 BK492 hb; have GW492 := Aside0.mk ((by rw [hg]; exact (keep_size (w := w) (g := g) (row := none) (by repeat (first | (with_reducible first | exact HK.out | apply KeepBut.set_ | apply keep_drewN | apply keep_drew | apply keep_alloc) | exact HK.out))) : w.heap.size ≤ gb492)); have GE492 := Aside0.mk ((Nat.le_trans HW0.out (by rw [hg]; exact (keep_size (w := w) (g := g) (row := none) (by repeat (first | (with_reducible first | exact HK.out | apply KeepBut.set_ | apply keep_drewN | apply keep_drew | apply keep_alloc) | exact HK.out))) : w.heap.size ≤ gb492) : w0.heap.size ≤ gb492)); have NB0_492 := Aside0.mk ((by rw [hg]; exact Nat.ne_of_lt (IsS164.lt (show IsS164 w0 _ g s0_0 s0_1 s0_2 from by repeat (first | (with_reducible first | exact HI0.out | apply IsS164.alloc | apply IsS164.drewN | apply IsS164.drew | apply IsS164.set_1 | apply IsS164.set_2) | exact HI0.out))) : g ≠ gb492)); have NB492_0 := Aside0.mk ((by rw [hg]; exact Nat.ne_of_gt (IsS164.lt (show IsS164 w0 _ g s0_0 s0_1 s0_2 from by repeat (first | (with_reducible first | exact HI0.out | apply IsS164.alloc | apply IsS164.drewN | apply IsS164.drew | apply IsS164.set_1 | apply IsS164.set_2) | exact HI0.out))) : gb492 ≠ g)); replace HK := Aside0.mk (KeepBut.trans (by repeat (first | (with_reducible first | exact HK.out | apply KeepBut.set_ | apply keep_drewN | apply keep_drew | apply keep_alloc) | exact HK.out)) (KeepBut.of_below hb g none) (.inl rfl)); replace HB := Aside0.mk (below_step (by repeat (first | (with_reducible first | exact HB.out | apply below_alloc | apply pw_below_drewN | apply below_drew1 | refine below_set ?_ (IsS164.ge HI0.out)) | exact HB.out)) hb); replace HI0 := Aside0.mk (IsS164.below (by repeat (first | (with_reducible first | exact HI0.out | apply IsS164.alloc | apply IsS164.drewN | apply IsS164.drew | apply IsS164.set_1 | apply IsS164.set_2) | exact HI0.out)) hb); clear hb hg) | ((refine gd_ 4 ?_); refine bx_ 4 #[.int .i64 0, .int .i64 0, .int .i64 0] 25 ?_; intro gb493 hg w7 BK493 hb; have GW493 := Aside0.mk ((by rw [hg]; exact (keep_size (w := w) (g := g) (row := none) (by repeat (first | (with_reducible first | exact HK.out | apply KeepBut.set_ | apply keep_drewN | apply keep_drew | apply keep_alloc | refine keep_far ?_ GW492.out _) | exact HK.out))) : w.heap.size ≤ gb493)); have GE493 := Aside0.mk ((Nat.le_trans HW0.out (by rw [hg]; exact (keep_size (w := w) (g := g) (row := none) (by repeat (first | (with_reducible first | exact HK.out | apply KeepBut.set_ | apply keep_drewN | apply keep_drew | apply keep_alloc | refine keep_far ?_ GW492.out _) | exact HK.out))) : w.heap.size ≤ gb493) : w0.heap.size ≤ gb493)); have NB492_493 := bm_ BK492 hg; have NB493_492 := bn_ BK492 hg; have NB0_493 := Aside0.mk ((by rw [hg]; exact Nat.ne_of_lt (IsS164.lt (show IsS164 w0 _ g s0_0 s0_1 s0_2 from by repeat (first | (with_reducible first | exact HI0.out | apply IsS164.alloc | apply IsS164.drewN | apply IsS164.drew | apply IsS164.set_1 | apply IsS164.set_2 | refine IsS164.far ?_ NB0_492.out _) | exact HI0.out))) : g ≠ gb493)); have NB493_0 := Aside0.mk ((by rw [hg]; exact Nat.ne_of_gt (IsS164.lt (show IsS164 w0 _ g s0_0 s0_1 s0_2 from by repeat (first | (with_reducible first | exact HI0.out | apply IsS164.alloc | apply IsS164.drewN | apply IsS164.drew | apply IsS164.set_1 | apply IsS164.set_2 | refine IsS164.far ?_ NB0_492.out _) | exact HI0.out))) : gb493 ≠ g)); replace BK492 := bb_ BK492 hb; replace HK := Aside0.mk (KeepBut.trans (by repeat (first | (with_reducible first | exact HK.out | apply KeepBut.set_ | apply keep_drewN | apply keep_drew | apply keep_alloc | refine keep_far ?_ GW492.out _) | exact HK.out)) (KeepBut.of_below hb g none) (.inl rfl)); replace HB := Aside0.mk (below_step (by repeat (first | (with_reducible first | exact HB.out | apply below_alloc | apply pw_below_drewN | apply below_drew1 | refine below_set ?_ (IsS164.ge HI0.out) | refine below_set ?_ GE492.out) | exact HB.out)) hb); replace HI0 := Aside0.mk (IsS164.below (by repeat (first | (with_reducible first | exact HI0.out | apply IsS164.alloc | apply IsS164.drewN | apply IsS164.drew | apply IsS164.set_1 | apply IsS164.set_2 | refine IsS164.far ?_ NB0_492.out _) | exact HI0.out)) hb); clear hb hg) | ((refine gc_ 74 ?_); refine ge_ 13 Try.func74 #[.pointer (some ⟨g, 0, none⟩)] ?_; (with_reducible refine (spec_l01Spoil.calls k g s0_0 s0_1 s0_2 t494 t495 t496 t497 t498 t499 w0 _ ?side1 ?side2 A2.out).mono ?_); (case side1 => repeat (first | (with_reducible first | exact HI0.out | apply IsS164.alloc | apply IsS164.drewN | apply IsS164.drew | apply IsS164.set_1 | apply IsS164.set_2 | refine IsS164.far ?_ NB0_492.out _ | refine IsS164.far ?_ NB0_493.out _) | exact HI0.out)); (case side2 => repeat (first | (with_reducible first | exact HB.out | apply below_alloc | apply pw_below_drewN | apply below_drew1 | refine below_set ?_ (IsS164.ge HI0.out) | refine below_set ?_ GE492.out | refine below_set ?_ GE493.out) | exact HB.out)); rintro e w8 ⟨rfl, hi, hb, hk⟩; refine ⟨_, rfl, ?_⟩; replace BK492 := Aside0.mk (KeepBut.blk hk (g' := gb492) (o := .cells #[.int .i64 0, .int .i64 0, .int .i64 0] 25 (0, 0)) (bl_ BK492).out NB492_0.out (by simp)); replace BK493 := Aside0.mk (KeepBut.blk hk (g' := gb493) (o := .cells #[.int .i64 0, .int .i64 0, .int .i64 0] 25 (0, 0)) (bl_ BK493).out NB493_0.out (by simp)); replace HK := Aside0.mk (KeepBut.trans (by repeat (first | (with_reducible first | exact HK.out | apply KeepBut.set_ | apply keep_drewN | apply keep_drew | apply keep_alloc | refine keep_far ?_ GW492.out _ | refine keep_far ?_ GW493.out _) | exact HK.out)) hk (.inl rfl)); replace HB := Aside0.mk (hb); replace HI0 := Aside0.mk (hi); (try clear hb); (try clear hk); (try clear hi)) | ((refine gd_ 6 ?_); refine bx_ 6 #[.int .i64 0, .int .i64 0, .int .i64 0] 25 ?_; intro gb500 hg w9 BK500 hb; have GW500 := Aside0.mk ((by rw [hg]; exact (keep_size (w := w) (g := g) (row := none) (by repeat (first | (with_reducible first | exact HK.out | apply KeepBut.set_ | apply keep_drewN | apply keep_drew | apply keep_alloc | refine keep_far ?_ GW492.out _ | refine keep_far ?_ GW493.out _) | exact HK.out))) : w.heap.size ≤ gb500)); have GE500 := Aside0.mk ((Nat.le_trans HW0.out (by rw [hg]; exact (keep_size (w := w) (g := g) (row := none) (by repeat (first | (with_reducible first | exact HK.out | apply KeepBut.set_ | apply keep_drewN | apply keep_drew | apply keep_alloc | refine keep_far ?_ GW492.out _ | refine keep_far ?_ GW493.out _) | exact HK.out))) : w.heap.size ≤ gb500) : w0.heap.size ≤ gb500)); have NB492_500 := bm_ BK492 hg; have NB500_492 := bn_ BK492 hg; have NB493_500 := bm_ BK493 hg; have NB500_493 := bn_ BK493 hg; have NB0_500 := Aside0.mk ((by rw [hg]; exact Nat.ne_of_lt (IsS164.lt (show IsS164 w0 _ g s0_0 t498 t499 from by repeat (first | (with_reducible first | exact HI0.out | apply IsS164.alloc | apply IsS164.drewN | apply IsS164.drew | apply IsS164.set_1 | apply IsS164.set_2 | refine IsS164.far ?_ NB0_492.out _ | refine IsS164.far ?_ NB0_493.out _) | exact HI0.out))) : g ≠ gb500)); have NB500_0 := Aside0.mk ((by rw [hg]; exact Nat.ne_of_gt (IsS164.lt (show IsS164 w0 _ g s0_0 t498 t499 from by repeat (first | (with_reducible first | exact HI0.out | apply IsS164.alloc | apply IsS164.drewN | apply IsS164.drew | apply IsS164.set_1 | apply IsS164.set_2 | refine IsS164.far ?_ NB0_492.out _ | refine IsS164.far ?_ NB0_493.out _) | exact HI0.out))) : gb500 ≠ g)); replace BK492 := bb_ BK492 hb; replace BK493 := bb_ BK493 hb; replace HK := Aside0.mk (KeepBut.trans (by repeat (first | (with_reducible first | exact HK.out | apply KeepBut.set_ | apply keep_drewN | apply keep_drew | apply keep_alloc | refine keep_far ?_ GW492.out _ | refine keep_far ?_ GW493.out _) | exact HK.out)) (KeepBut.of_below hb g none) (.inl rfl)); replace HB := Aside0.mk (below_step (by repeat (first | (with_reducible first | exact HB.out | apply below_alloc | apply pw_below_drewN | apply below_drew1 | refine below_set ?_ (IsS164.ge HI0.out) | refine below_set ?_ GE492.out | refine below_set ?_ GE493.out) | exact HB.out)) hb); replace HI0 := Aside0.mk (IsS164.below (by repeat (first | (with_reducible first | exact HI0.out | apply IsS164.alloc | apply IsS164.drewN | apply IsS164.drew | apply IsS164.set_1 | apply IsS164.set_2 | refine IsS164.far ?_ NB0_492.out _ | refine IsS164.far ?_ NB0_493.out _) | exact HI0.out)) hb); clear hb hg; have hnb10 := NB500_492.out; have hnc10 := NB492_500.out; have hnb11 := NB500_493.out; have hnc11 := NB493_500.out; have hnb12 := NB500_0.out; have hnc12 := NB0_500.out; obtain ⟨hcz13_0, hcz13_1, hcz13_2, hfz13_0, hfz13_1, hfz13_2⟩ := ch3_ BK500) | ((refine gc_ 155 ?_); refine ge_ 18 Try.func155 #[.int .i64 t494] ?_; (with_reducible refine (spec_l02Fine.calls t494 t501 _ A3.out).mono ?_); rintro e w' ⟨rfl, ⟨nd, rfl⟩⟩; refine ⟨_, rfl, ?_⟩) | ((refine gc_ 124 ?_); refine ge_ 19 Try.func124 #[.pointer (some ⟨g, 0, none⟩), .int .i64 t501] ?_; (with_reducible refine (spec_l01Draw.calls k g s0_0 t498 t499 t501 t502 t503 t504 t505 t506 w0 _ ?side1 ?side2 A4.out).mono ?_); (case side1 => repeat (first | (with_reducible first | exact HI0.out | apply IsS164.alloc | apply IsS164.drewN | apply IsS164.drew | apply IsS164.set_1 | apply IsS164.set_2 | refine IsS164.far ?_ NB0_492.out _ | refine IsS164.far ?_ NB0_493.out _ | refine IsS164.far ?_ NB0_500.out _) | exact HI0.out)); (case side2 => repeat (first | (with_reducible first | exact HB.out | apply below_alloc | apply pw_below_drewN | apply below_drew1 | refine below_set ?_ (IsS164.ge HI0.out) | refine below_set ?_ GE492.out | refine below_set ?_ GE493.out | refine below_set ?_ GE500.out) | exact HB.out)); rintro e w14 ⟨rfl, hi, hb, hk⟩; refine ⟨_, rfl, ?_⟩; replace BK492 := Aside0.mk (KeepBut.blk hk (g' := gb492) (o := .cells #[.int .i64 0, .int .i64 0, .int .i64 0] 25 (0, 0)) (fl_ BK492 NB492_500).out NB492_0.out (by simp)); replace BK493 := Aside0.mk (KeepBut.blk hk (g' := gb493) (o := .cells #[.int .i64 0, .int .i64 0, .int .i64 0] 25 (0, 0)) (fl_ BK493 NB493_500).out NB493_0.out (by simp)); replace BK500 := Aside0.mk (KeepBut.blk hk (g' := gb500) (o := .cells #[.int .i64 t495, .int .i64 t496, .int .i64 t497] 25 (0, 0)) (bp_ BK500).out NB500_0.out (by simp)); replace HK := Aside0.mk (KeepBut.trans (by repeat (first | (with_reducible first | exact HK.out | apply KeepBut.set_ | apply keep_drewN | apply keep_drew | apply keep_alloc | refine keep_far ?_ GW492.out _ | refine keep_far ?_ GW493.out _ | refine keep_far ?_ GW500.out _) | exact HK.out)) hk (.inl rfl)); replace HB := Aside0.mk (hb); replace HI0 := Aside0.mk (hi); (try clear hb); (try clear hk); (try clear hi)) | ((refine gd_ 7 ?_); refine bx_ 7 #[.int .i64 0, .int .i64 0, .int .i64 0] 25 ?_; intro gb507 hg w15 BK507 hb; have GW507 := Aside0.mk ((by rw [hg]; exact (keep_size (w := w) (g := g) (row := none) (by repeat (first | (with_reducible first | exact HK.out | apply KeepBut.set_ | apply keep_drewN | apply keep_drew | apply keep_alloc | refine keep_far ?_ GW492.out _ | refine keep_far ?_ GW493.out _ | refine keep_far ?_ GW500.out _) | exact HK.out))) : w.heap.size ≤ gb507)); have GE507 := Aside0.mk ((Nat.le_trans HW0.out (by rw [hg]; exact (keep_size (w := w) (g := g) (row := none) (by repeat (first | (with_reducible first | exact HK.out | apply KeepBut.set_ | apply keep_drewN | apply keep_drew | apply keep_alloc | refine keep_far ?_ GW492.out _ | refine keep_far ?_ GW493.out _ | refine keep_far ?_ GW500.out _) | exact HK.out))) : w.heap.size ≤ gb507) : w0.heap.size ≤ gb507)); have NB492_507 := bm_ BK492 hg; have NB507_492 := bn_ BK492 hg; have NB493_507 := bm_ BK493 hg; have NB507_493 := bn_ BK493 hg; have NB500_507 := bm_ BK500 hg; have NB507_500 := bn_ BK500 hg; have NB0_507 := Aside0.mk ((by rw [hg]; exact Nat.ne_of_lt (IsS164.lt (show IsS164 w0 _ g s0_0 t505 t506 from by repeat (first | (with_reducible first | exact HI0.out | apply IsS164.alloc | apply IsS164.drewN | apply IsS164.drew | apply IsS164.set_1 | apply IsS164.set_2 | refine IsS164.far ?_ NB0_492.out _ | refine IsS164.far ?_ NB0_493.out _ | refine IsS164.far ?_ NB0_500.out _) | exact HI0.out))) : g ≠ gb507)); have NB507_0 := Aside0.mk ((by rw [hg]; exact Nat.ne_of_gt (IsS164.lt (show IsS164 w0 _ g s0_0 t505 t506 from by repeat (first | (with_reducible first | exact HI0.out | apply IsS164.alloc | apply IsS164.drewN | apply IsS164.drew | apply IsS164.set_1 | apply IsS164.set_2 | refine IsS164.far ?_ NB0_492.out _ | refine IsS164.far ?_ NB0_493.out _ | refine IsS164.far ?_ NB0_500.out _) | exact HI0.out))) : gb507 ≠ g)); replace BK492 := bb_ BK492 hb; replace BK493 := bb_ BK493 hb; replace BK500 := bb_ BK500 hb; replace HK := Aside0.mk (KeepBut.trans (by repeat (first | (with_reducible first | exact HK.out | apply KeepBut.set_ | apply keep_drewN | apply keep_drew | apply keep_alloc | refine keep_far ?_ GW492.out _ | refine keep_far ?_ GW493.out _ | refine keep_far ?_ GW500.out _) | exact HK.out)) (KeepBut.of_below hb g none) (.inl rfl)); replace HB := Aside0.mk (below_step (by repeat (first | (with_reducible first | exact HB.out | apply below_alloc | apply pw_below_drewN | apply below_drew1 | refine below_set ?_ (IsS164.ge HI0.out) | refine below_set ?_ GE492.out | refine below_set ?_ GE493.out | refine below_set ?_ GE500.out) | exact HB.out)) hb); replace HI0 := Aside0.mk (IsS164.below (by repeat (first | (with_reducible first | exact HI0.out | apply IsS164.alloc | apply IsS164.drewN | apply IsS164.drew | apply IsS164.set_1 | apply IsS164.set_2 | refine IsS164.far ?_ NB0_492.out _ | refine IsS164.far ?_ NB0_493.out _ | refine IsS164.far ?_ NB0_500.out _) | exact HI0.out)) hb); clear hb hg; have hnb16 := NB507_492.out; have hnc16 := NB492_507.out; have hnb17 := NB507_493.out; have hnc17 := NB493_507.out; have hnb18 := NB507_500.out; have hnc18 := NB500_507.out; have hnb19 := NB507_0.out; have hnc19 := NB0_507.out; obtain ⟨hcz20_0, hcz20_1, hcz20_2, hfz20_0, hfz20_1, hfz20_2⟩ := ch3_ BK507))
 (try simp only [Act.put, lstS, lstZ, lstC])
 go_cut [31] (fun v31 wc => ∃ (kq : Nat) (x31_4 : Bool) (x1001_4 : Int) (x1002_4 : Int), v31 = .bool x31_4 ∧ Aside0 (spec_l02Two.j0 kq t494 x31_4 s0_0 x1001_4 x1002_4 t495 t496 t497 t502 t503 t504 = some (r1, r2, r3, r4, r5, r6, r7, r8, r9)) ∧ Aside0 (kq ≤ k) ∧ Aside0 (wc.heap[gb492]? = some (.cells #[.int .i64 0, .int .i64 0, .int .i64 0] 25 (0, 0))) ∧ Aside0 (wc.heap[gb493]? = some (.cells #[.int .i64 0, .int .i64 0, .int .i64 0] 25 (0, 0))) ∧ Aside0 (wc.heap[gb500]? = some (.cells #[.int .i64 t495, .int .i64 t496, .int .i64 t497] 25 (0, 0))) ∧ Aside0 (wc.heap[gb507]? = some (.cells #[.int .i64 t502, .int .i64 t503, .int .i64 t504] 25 (0, 0))) ∧ Aside0 (IsS164 w0 wc g s0_0 x1001_4 x1002_4) ∧ Aside0 (KeepBut w wc g none) ∧ Aside0 (Below w0.heap.size w0 wc))
 case first =>
  have H := HC5.out
  clear HC5
  replace H := ob_ H
  obtain ⟨t508, A210, H⟩ := H
  have A21 := Aside0.mk A210
  clear A210
  by_cases c22 : t508 = true
  ·subst c22
   have H1 : ((spec_l01Is.f k t494 t495 t496 t497).bind fun t509 => (if t509 = true then ((spec_l01Next.f s0_0 t505 t506 2).bind fun bt510 => (spec_l02Two.j0 k t494 (bt510.1 == 0) s0_0 bt510.2.1 bt510.2.2 t495 t496 t497 t502 t503 t504)) else (spec_l02Two.j0 k t494 false s0_0 t505 t506 t495 t496 t497 t502 t503 t504))) = some (r1, r2, r3, r4, r5, r6, r7, r8, r9) := by rw [if_pos rfl] at H; exact H
   clear H
   have H := H1
   clear H1
   replace H := ob_ H
   obtain ⟨t509, A230, H⟩ := H
   have A23 := Aside0.mk A230
   clear A230
   by_cases c24 : t509 = true
   ·subst c24
    have H1 : ((spec_l01Next.f s0_0 t505 t506 2).bind fun bt510 => (spec_l02Two.j0 k t494 (bt510.1 == 0) s0_0 bt510.2.1 bt510.2.2 t495 t496 t497 t502 t503 t504)) = some (r1, r2, r3, r4, r5, r6, r7, r8, r9) := by rw [if_pos rfl] at H; exact H
    clear H
    have H := H1
    clear H1
    replace H := ob_ H
    obtain ⟨⟨t510, t511, t512⟩, A250, H⟩ := H
    have A25 := Aside0.mk A250
    clear A250
    have H' := Aside0.mk H
    clear H
    go_wp2_with (first | ((refine gc_ 121 ?_); refine ge_ 21 Try.func121 #[.int .i64 t494] ?_; (with_reducible refine (spec_l01Prime.calls t494 true _ A21.out).mono ?_); rintro e w' ⟨rfl, ⟨nd, rfl⟩⟩; refine ⟨_, rfl, ?_⟩; have hnb26 := NB500_492.out; have hnc26 := NB492_500.out; have hnb27 := NB500_493.out; have hnc27 := NB493_500.out; have hnb28 := NB500_507.out; have hnc28 := NB507_500.out; have hnb29 := NB500_0.out; have hnc29 := NB0_500.out; obtain ⟨hcz30_0, hcz30_1, hcz30_2, hfz30_0, hfz30_1, hfz30_2⟩ := ch3_ BK500) | (go_at_call 123; (with_reducible refine (spec_l01Is.calls k t494 t495 t496 t497 true _ A23.out).mono ?_); rintro e w31 ⟨rfl, hb⟩; replace BK492 := fb_ BK492 NB492_507 hb; replace BK493 := fb_ BK493 NB493_507 hb; replace BK500 := fb_ BK500 NB500_507 hb; replace BK507 := Aside0.mk (blk_below (g := gb507) (o := .cells #[.int .i64 t502, .int .i64 t503, .int .i64 t504] 25 (0, 0)) (bp_ BK507).out hb); replace HK := Aside0.mk (KeepBut.trans (by repeat (first | (with_reducible first | exact HK.out | apply KeepBut.set_ | apply keep_drewN | apply keep_drew | apply keep_alloc | refine keep_far ?_ GW492.out _ | refine keep_far ?_ GW493.out _ | refine keep_far ?_ GW500.out _ | refine keep_far ?_ GW507.out _) | exact HK.out)) (KeepBut.of_below hb g none) (.inl rfl)); replace HB := Aside0.mk (below_step (by repeat (first | (with_reducible first | exact HB.out | apply below_alloc | apply pw_below_drewN | apply below_drew1 | refine below_set ?_ (IsS164.ge HI0.out) | refine below_set ?_ GE492.out | refine below_set ?_ GE493.out | refine below_set ?_ GE500.out | refine below_set ?_ GE507.out) | exact HB.out)) hb); replace HI0 := Aside0.mk (IsS164.below (show IsS164 w0 (World.drewN (((w15.setCell ⟨gb507, 0, none⟩ (.int .i64 t502)).setCell ⟨gb507, 1, none⟩ (.int .i64 t503)).setCell ⟨gb507, 2, none⟩ (.int .i64 t504)) nd) g s0_0 t505 t506 from by repeat (first | (with_reducible first | exact HI0.out | apply IsS164.alloc | apply IsS164.drewN | apply IsS164.drew | apply IsS164.set_1 | apply IsS164.set_2 | refine IsS164.far ?_ NB0_492.out _ | refine IsS164.far ?_ NB0_493.out _ | refine IsS164.far ?_ NB0_500.out _ | refine IsS164.far ?_ NB0_507.out _) | exact HI0.out)) hb); (try clear hb)) | (go_at_call 108; (with_reducible refine (spec_l01Next.calls g s0_0 t505 t506 2 t510 t511 t512 w0 _ ?side1 ?side2 A25.out).mono ?_); (case side1 => repeat (first | (with_reducible first | exact HI0.out | apply IsS164.alloc | apply IsS164.drewN | apply IsS164.drew | apply IsS164.set_1 | apply IsS164.set_2 | refine IsS164.far ?_ NB0_492.out _ | refine IsS164.far ?_ NB0_493.out _ | refine IsS164.far ?_ NB0_500.out _ | refine IsS164.far ?_ NB0_507.out _) | exact HI0.out)); (case side2 => repeat (first | (with_reducible first | exact HB.out | apply below_alloc | apply pw_below_drewN | apply below_drew1 | refine below_set ?_ (IsS164.ge HI0.out) | refine below_set ?_ GE492.out | refine below_set ?_ GE493.out | refine below_set ?_ GE500.out | refine below_set ?_ GE507.out) | exact HB.out)); rintro e w32 ⟨rfl, hi, hb, hk⟩; replace BK492 := Aside0.mk (KeepBut.blk hk (g' := gb492) (o := .cells #[.int .i64 0, .int .i64 0, .int .i64 0] 25 (0, 0)) (bl_ BK492).out NB492_0.out (by simp)); replace BK493 := Aside0.mk (KeepBut.blk hk (g' := gb493) (o := .cells #[.int .i64 0, .int .i64 0, .int .i64 0] 25 (0, 0)) (bl_ BK493).out NB493_0.out (by simp)); replace BK500 := Aside0.mk (KeepBut.blk hk (g' := gb500) (o := .cells #[.int .i64 t495, .int .i64 t496, .int .i64 t497] 25 (0, 0)) (bl_ BK500).out NB500_0.out (by simp)); replace BK507 := Aside0.mk (KeepBut.blk hk (g' := gb507) (o := .cells #[.int .i64 t502, .int .i64 t503, .int .i64 t504] 25 (0, 0)) (bl_ BK507).out NB507_0.out (by simp)); replace HK := Aside0.mk (KeepBut.trans (by repeat (first | (with_reducible first | exact HK.out | apply KeepBut.set_ | apply keep_drewN | apply keep_drew | apply keep_alloc | refine keep_far ?_ GW492.out _ | refine keep_far ?_ GW493.out _ | refine keep_far ?_ GW500.out _ | refine keep_far ?_ GW507.out _) | exact HK.out)) hk (.inl rfl)); replace HB := Aside0.mk (hb); replace HI0 := Aside0.mk (hi); (try clear hb); (try clear hk); (try clear hi)))
    go_meet
    case rel => exact ⟨_, ((t510 == 0)), (t511), (t512), en_, H', ⟨by first | omega | exact Nat.le_refl _⟩, bl_ BK492, bl_ BK493, bl_ BK500, bl_ BK507, ⟨by repeat (first | (with_reducible first | exact HI0.out | apply IsS164.alloc | apply IsS164.drewN | apply IsS164.drew | apply IsS164.set_1 | apply IsS164.set_2 | refine IsS164.far ?_ NB0_492.out _ | refine IsS164.far ?_ NB0_493.out _ | refine IsS164.far ?_ NB0_500.out _ | refine IsS164.far ?_ NB0_507.out _) | exact HI0.out)⟩, ⟨by repeat (first | (with_reducible first | exact HK.out | apply KeepBut.set_ | apply keep_drewN | apply keep_drew | apply keep_alloc | refine keep_far ?_ GW492.out _ | refine keep_far ?_ GW493.out _ | refine keep_far ?_ GW500.out _ | refine keep_far ?_ GW507.out _) | exact HK.out)⟩, ⟨by repeat (first | (with_reducible first | exact HB.out | apply below_alloc | apply pw_below_drewN | apply below_drew1 | refine below_set ?_ (IsS164.ge HI0.out) | refine below_set ?_ GE492.out | refine below_set ?_ GE493.out | refine below_set ?_ GE500.out | refine below_set ?_ GE507.out) | exact HB.out)⟩⟩
   ·replace c24 := Bool.eq_false_iff.mpr c24
    subst c24
    have H1 : (spec_l02Two.j0 k t494 false s0_0 t505 t506 t495 t496 t497 t502 t503 t504) = some (r1, r2, r3, r4, r5, r6, r7, r8, r9) := by rw [if_neg (show ¬ (false = true) by decide)] at H; exact H
    clear H
    have H := H1
    clear H1
    have H' := Aside0.mk H
    clear H
    go_wp2_with (first | ((refine gc_ 121 ?_); refine ge_ 21 Try.func121 #[.int .i64 t494] ?_; (with_reducible refine (spec_l01Prime.calls t494 true _ A21.out).mono ?_); rintro e w' ⟨rfl, ⟨nd, rfl⟩⟩; refine ⟨_, rfl, ?_⟩; have hnb33 := NB500_492.out; have hnc33 := NB492_500.out; have hnb34 := NB500_493.out; have hnc34 := NB493_500.out; have hnb35 := NB500_507.out; have hnc35 := NB507_500.out; have hnb36 := NB500_0.out; have hnc36 := NB0_500.out; obtain ⟨hcz37_0, hcz37_1, hcz37_2, hfz37_0, hfz37_1, hfz37_2⟩ := ch3_ BK500) | (go_at_call 123; (with_reducible refine (spec_l01Is.calls k t494 t495 t496 t497 false _ A23.out).mono ?_); rintro e w38 ⟨rfl, hb⟩; replace BK492 := fb_ BK492 NB492_507 hb; replace BK493 := fb_ BK493 NB493_507 hb; replace BK500 := fb_ BK500 NB500_507 hb; replace BK507 := Aside0.mk (blk_below (g := gb507) (o := .cells #[.int .i64 t502, .int .i64 t503, .int .i64 t504] 25 (0, 0)) (bp_ BK507).out hb); replace HK := Aside0.mk (KeepBut.trans (by repeat (first | (with_reducible first | exact HK.out | apply KeepBut.set_ | apply keep_drewN | apply keep_drew | apply keep_alloc | refine keep_far ?_ GW492.out _ | refine keep_far ?_ GW493.out _ | refine keep_far ?_ GW500.out _ | refine keep_far ?_ GW507.out _) | exact HK.out)) (KeepBut.of_below hb g none) (.inl rfl)); replace HB := Aside0.mk (below_step (by repeat (first | (with_reducible first | exact HB.out | apply below_alloc | apply pw_below_drewN | apply below_drew1 | refine below_set ?_ (IsS164.ge HI0.out) | refine below_set ?_ GE492.out | refine below_set ?_ GE493.out | refine below_set ?_ GE500.out | refine below_set ?_ GE507.out) | exact HB.out)) hb); replace HI0 := Aside0.mk (IsS164.below (show IsS164 w0 (World.drewN (((w15.setCell ⟨gb507, 0, none⟩ (.int .i64 t502)).setCell ⟨gb507, 1, none⟩ (.int .i64 t503)).setCell ⟨gb507, 2, none⟩ (.int .i64 t504)) nd) g s0_0 t505 t506 from by repeat (first | (with_reducible first | exact HI0.out | apply IsS164.alloc | apply IsS164.drewN | apply IsS164.drew | apply IsS164.set_1 | apply IsS164.set_2 | refine IsS164.far ?_ NB0_492.out _ | refine IsS164.far ?_ NB0_493.out _ | refine IsS164.far ?_ NB0_500.out _ | refine IsS164.far ?_ NB0_507.out _) | exact HI0.out)) hb); (try clear hb)))
    go_meet
    case rel => exact ⟨_, (false), (t505), (t506), en_, H', ⟨by first | omega | exact Nat.le_refl _⟩, bl_ BK492, bl_ BK493, bl_ BK500, bl_ BK507, ⟨by repeat (first | (with_reducible first | exact HI0.out | apply IsS164.alloc | apply IsS164.drewN | apply IsS164.drew | apply IsS164.set_1 | apply IsS164.set_2 | refine IsS164.far ?_ NB0_492.out _ | refine IsS164.far ?_ NB0_493.out _ | refine IsS164.far ?_ NB0_500.out _ | refine IsS164.far ?_ NB0_507.out _) | exact HI0.out)⟩, ⟨by repeat (first | (with_reducible first | exact HK.out | apply KeepBut.set_ | apply keep_drewN | apply keep_drew | apply keep_alloc | refine keep_far ?_ GW492.out _ | refine keep_far ?_ GW493.out _ | refine keep_far ?_ GW500.out _ | refine keep_far ?_ GW507.out _) | exact HK.out)⟩, ⟨by repeat (first | (with_reducible first | exact HB.out | apply below_alloc | apply pw_below_drewN | apply below_drew1 | refine below_set ?_ (IsS164.ge HI0.out) | refine below_set ?_ GE492.out | refine below_set ?_ GE493.out | refine below_set ?_ GE500.out | refine below_set ?_ GE507.out) | exact HB.out)⟩⟩
  ·replace c22 := Bool.eq_false_iff.mpr c22
   subst c22
   have H1 : (spec_l02Two.j0 k t494 false s0_0 t505 t506 t495 t496 t497 t502 t503 t504) = some (r1, r2, r3, r4, r5, r6, r7, r8, r9) := by rw [if_neg (show ¬ (false = true) by decide)] at H; exact H
   clear H
   have H := H1
   clear H1
   have H' := Aside0.mk H
   clear H
   go_wp2_with (first | ((refine gc_ 121 ?_); refine ge_ 21 Try.func121 #[.int .i64 t494] ?_; (with_reducible refine (spec_l01Prime.calls t494 false _ A21.out).mono ?_); rintro e w' ⟨rfl, ⟨nd, rfl⟩⟩; refine ⟨_, rfl, ?_⟩))
   go_meet
   case rel => exact ⟨_, (false), (t505), (t506), en_, H', ⟨by first | omega | exact Nat.le_refl _⟩, fl_ BK492 NB492_507, fl_ BK493 NB493_507, fl_ BK500 NB500_507, bp_ BK507, ⟨by repeat (first | (with_reducible first | exact HI0.out | apply IsS164.alloc | apply IsS164.drewN | apply IsS164.drew | apply IsS164.set_1 | apply IsS164.set_2 | refine IsS164.far ?_ NB0_492.out _ | refine IsS164.far ?_ NB0_493.out _ | refine IsS164.far ?_ NB0_500.out _ | refine IsS164.far ?_ NB0_507.out _) | exact HI0.out)⟩, ⟨by repeat (first | (with_reducible first | exact HK.out | apply KeepBut.set_ | apply keep_drewN | apply keep_drew | apply keep_alloc | refine keep_far ?_ GW492.out _ | refine keep_far ?_ GW493.out _ | refine keep_far ?_ GW500.out _ | refine keep_far ?_ GW507.out _) | exact HK.out)⟩, ⟨by repeat (first | (with_reducible first | exact HB.out | apply below_alloc | apply pw_below_drewN | apply below_drew1 | refine below_set ?_ (IsS164.ge HI0.out) | refine below_set ?_ GE492.out | refine below_set ?_ GE493.out | refine below_set ?_ GE500.out | refine below_set ?_ GE507.out) | exact HB.out)⟩⟩
 case rest =>
  clear HC5
  try clear c1
  try clear c2
  try clear p2
  try clear c3
  try clear c7
  try clear c8
  try clear c10
  try clear c11
  try clear c12
  try clear c15
  try clear c16
  try clear c17
  try clear c18
  try clear c19
  try clear c22
  try clear c24
  try clear c26
  try clear c27
  try clear c28
  try clear c29
  try clear c33
  try clear c34
  try clear c35
  try clear c36
  try clear hcz13_0 hcz13_1 hcz13_2
  try clear hcz20_0 hcz20_1 hcz20_2
  try clear hcz30_0 hcz30_1 hcz30_2
  try clear hcz37_0 hcz37_1 hcz37_2
  try clear hfz13_0 hfz13_1 hfz13_2
  try clear hfz20_0 hfz20_1 hfz20_2
  try clear hfz30_0 hfz30_1 hfz30_2
  try clear hfz37_0 hfz37_1 hfz37_2
  obtain ⟨kq, x31_4, x1001_4, x1002_4, rfl, HA, HJ4, BK492, BK493, BK500, BK507, HI0, HK, HB⟩ := hcut
  cases kq with
  | zero => exact absurd HA.out (by simp [spec_l02Two.j0])
  | succ kj4 =>
   have H := HA.out
   clear HA
   simp only [spec_l02Two.j0] at H
   by_cases c39 : x31_4 = true
   ·subst c39
    have H1 : ((spec_l01Next.f s0_0 x1001_4 x1002_4 5).bind fun bt513 => (spec_l02Two.l0 kj4 t494 bt513.1 s0_0 bt513.2.1 bt513.2.2 t495 t496 t497 t495 t496 t497)) = some (r1, r2, r3, r4, r5, r6, r7, r8, r9) := by rw [if_pos rfl] at H; exact H
    clear H
    have H := H1
    clear H1
    replace H := ob_ H
    obtain ⟨⟨t513, t514, t515⟩, A400, H⟩ := H
    have A40 := Aside0.mk A400
    clear A400
    have H' := Aside0.mk H
    clear H
    have hnb41 := NB500_492.out
    have hnc41 := NB492_500.out
    have hnb42 := NB500_493.out
    have hnc42 := NB493_500.out
    have hnb43 := NB500_507.out
    have hnc43 := NB507_500.out
    have hnb44 := NB500_0.out
    have hnc44 := NB0_500.out
    obtain ⟨hcz45_0, hcz45_1, hcz45_2, hfz45_0, hfz45_1, hfz45_2⟩ := ch3_ BK500
    have hnb46 := NB507_492.out
    have hnc46 := NB492_507.out
    have hnb47 := NB507_493.out
    have hnc47 := NB493_507.out
    have hnb48 := NB507_0.out
    have hnc48 := NB0_507.out
    obtain ⟨hcz49_0, hcz49_1, hcz49_2, hfz49_0, hfz49_1, hfz49_2⟩ := ch3_ BK507
    go_wp2_with (first | ((refine gc_ 108 ?_); refine ge_ 34 Try.func108 #[.pointer (some ⟨g, 0, none⟩), .int .i64 5] ?_; (with_reducible refine (spec_l01Next.calls g s0_0 x1001_4 x1002_4 5 t513 t514 t515 w0 _ ?side1 ?side2 A40.out).mono ?_); (case side1 => repeat (first | (with_reducible first | exact HI0.out | apply IsS164.alloc | apply IsS164.drewN | apply IsS164.drew | apply IsS164.set_1 | apply IsS164.set_2 | refine IsS164.far ?_ NB0_492.out _ | refine IsS164.far ?_ NB0_493.out _ | refine IsS164.far ?_ NB0_500.out _ | refine IsS164.far ?_ NB0_507.out _) | exact HI0.out)); (case side2 => repeat (first | (with_reducible first | exact HB.out | apply below_alloc | apply pw_below_drewN | apply below_drew1 | refine below_set ?_ (IsS164.ge HI0.out) | refine below_set ?_ GE492.out | refine below_set ?_ GE493.out | refine below_set ?_ GE500.out | refine below_set ?_ GE507.out) | exact HB.out)); rintro e w50 ⟨rfl, hi, hb, hk⟩; refine ⟨_, rfl, ?_⟩; replace BK492 := Aside0.mk (KeepBut.blk hk (g' := gb492) (o := .cells #[.int .i64 0, .int .i64 0, .int .i64 0] 25 (0, 0)) (fl_ BK492 NB492_507).out NB492_0.out (by simp)); replace BK493 := Aside0.mk (KeepBut.blk hk (g' := gb493) (o := .cells #[.int .i64 0, .int .i64 0, .int .i64 0] 25 (0, 0)) (fl_ BK493 NB493_507).out NB493_0.out (by simp)); replace BK500 := Aside0.mk (KeepBut.blk hk (g' := gb500) (o := .cells #[.int .i64 t495, .int .i64 t496, .int .i64 t497] 25 (0, 0)) (fl_ BK500 NB500_507).out NB500_0.out (by simp)); replace BK507 := Aside0.mk (KeepBut.blk hk (g' := gb507) (o := .cells #[.int .i64 t495, .int .i64 t496, .int .i64 t497] 25 (0, 0)) (bp_ BK507).out NB507_0.out (by simp)); replace HK := Aside0.mk (KeepBut.trans (by repeat (first | (with_reducible first | exact HK.out | apply KeepBut.set_ | apply keep_drewN | apply keep_drew | apply keep_alloc | refine keep_far ?_ GW492.out _ | refine keep_far ?_ GW493.out _ | refine keep_far ?_ GW500.out _ | refine keep_far ?_ GW507.out _) | exact HK.out)) hk (.inl rfl)); replace HB := Aside0.mk (hb); replace HI0 := Aside0.mk (hi); (try clear hb); (try clear hk); (try clear hi)))
    go_loopg [8] kj4 (fun kq v8 w' => ∃ (x8_2 : Int) (x1001_2 : Int) (x1002_2 : Int) (x508000_2 : Int) (x508001_2 : Int) (x508002_2 : Int), v8 = .int .i64 x8_2 ∧ Aside0 (spec_l02Two.l0 kq t494 x8_2 s0_0 x1001_2 x1002_2 t495 t496 t497 x508000_2 x508001_2 x508002_2 = some (r1, r2, r3, r4, r5, r6, r7, r8, r9)) ∧ Aside0 (kq ≤ kj4) ∧ Aside0 (w'.heap[gb492]? = some (.cells #[.int .i64 0, .int .i64 0, .int .i64 0] 25 (0, 0))) ∧ Aside0 (w'.heap[gb493]? = some (.cells #[.int .i64 0, .int .i64 0, .int .i64 0] 25 (0, 0))) ∧ Aside0 (w'.heap[gb500]? = some (.cells #[.int .i64 t495, .int .i64 t496, .int .i64 t497] 25 (0, 0))) ∧ Aside0 (w'.heap[gb507]? = some (.cells #[.int .i64 x508000_2, .int .i64 x508001_2, .int .i64 x508002_2] 25 (0, 0))) ∧ Aside0 (IsS164 w0 w' g s0_0 x1001_2 x1002_2) ∧ Aside0 (KeepBut w w' g none) ∧ Aside0 (Below w0.heap.size w0 w'))
    case atStart => exact ⟨(t513), (t514), (t515), (t495), (t496), (t497), en_, H', ⟨Nat.le_refl _⟩, bl_ BK492, bl_ BK493, bl_ BK500, bl_ BK507, ⟨by repeat (first | (with_reducible first | exact HI0.out | apply IsS164.alloc | apply IsS164.drewN | apply IsS164.drew | apply IsS164.set_1 | apply IsS164.set_2 | refine IsS164.far ?_ NB0_492.out _ | refine IsS164.far ?_ NB0_493.out _ | refine IsS164.far ?_ NB0_500.out _ | refine IsS164.far ?_ NB0_507.out _) | exact HI0.out)⟩, ⟨by repeat (first | (with_reducible first | exact HK.out | apply KeepBut.set_ | apply keep_drewN | apply keep_drew | apply keep_alloc | refine keep_far ?_ GW492.out _ | refine keep_far ?_ GW493.out _ | refine keep_far ?_ GW500.out _ | refine keep_far ?_ GW507.out _) | exact HK.out)⟩, ⟨by repeat (first | (with_reducible first | exact HB.out | apply below_alloc | apply pw_below_drewN | apply below_drew1 | refine below_set ?_ (IsS164.ge HI0.out) | refine below_set ?_ GE492.out | refine below_set ?_ GE493.out | refine below_set ?_ GE500.out | refine below_set ?_ GE507.out) | exact HB.out)⟩⟩
    case round =>
     clear H'
     try clear c1
     try clear c2
     try clear p2
     try clear c3
     try clear c4
     try clear c7
     try clear c8
     try clear c10
     try clear c11
     try clear c12
     try clear c15
     try clear c16
     try clear c17
     try clear c18
     try clear c19
     try clear c22
     try clear c24
     try clear c26
     try clear c27
     try clear c28
     try clear c29
     try clear c33
     try clear c34
     try clear c35
     try clear c36
     try clear c39
     try clear c41
     try clear c42
     try clear c43
     try clear c44
     try clear c46
     try clear c47
     try clear c48
     try clear hcz13_0 hcz13_1 hcz13_2
     try clear hcz20_0 hcz20_1 hcz20_2
     try clear hcz30_0 hcz30_1 hcz30_2
     try clear hcz37_0 hcz37_1 hcz37_2
     try clear hcz45_0 hcz45_1 hcz45_2
     try clear hcz49_0 hcz49_1 hcz49_2
     try clear hfz13_0 hfz13_1 hfz13_2
     try clear hfz20_0 hfz20_1 hfz20_2
     try clear hfz30_0 hfz30_1 hfz30_2
     try clear hfz37_0 hfz37_1 hfz37_2
     try clear hfz45_0 hfz45_1 hfz45_2
     try clear hfz49_0 hfz49_1 hfz49_2
     try clear p2
     obtain ⟨x8_2, x1001_2, x1002_2, x508000_2, x508001_2, x508002_2, rfl, HA, HK2, BK492, BK493, BK500, BK507, HI0, HK, HB⟩ := hrel
     cases gk with
     | zero => exact absurd HA.out (by simp [spec_l02Two.l0])
     | succ k2 =>
      have H := HA.out
      clear HA
      simp only [spec_l02Two.l0] at H
      by_cases c51 : x8_2 > 0
      ·rw [if_pos c51] at H
       have c51b0 : decide (0 < x8_2) = true := decide_eq_true c51
       clear c51
       replace H := ob_ H
       obtain ⟨⟨t521, t524⟩, A520, H⟩ := H
       have A52 := Aside0.mk A520
       clear A520
       by_cases c53 : t524 = true
       ·subst c53
        have H1 : ((spec_l01Next.f s0_0 x1001_2 x1002_2 (wrap64 (t494 + 1))).bind fun bt525 => (if 0 ≤ bt525.1 then (if bt525.1 < (t521.length : Int) then (spec_l02Two.l0 k2 t494 (wrap64 (x8_2 - 1)) s0_0 bt525.2.1 bt525.2.2 t495 t496 t497 ((rd_T25 t521 bt525.1).f0) ((rd_T25 t521 bt525.1).f1) ((rd_T25 t521 bt525.1).f2)) else (none)) else (none))) = some (r1, r2, r3, r4, r5, r6, r7, r8, r9) := by rw [if_pos rfl] at H; exact H
        clear H
        have H := H1
        clear H1
        replace H := ob_ H
        obtain ⟨⟨t525, t526, t527⟩, A540, H⟩ := H
        have A54 := Aside0.mk A540
        clear A540
        by_cases c55 : 0 ≤ t525
        ·rw [if_pos c55] at H
         have c55b0 : decide (0 ≤ t525) = true := decide_eq_true c55
         clear c55
         by_cases c56 : t525 < (t521.length : Int)
         ·rw [if_pos c56] at H
          have c56b0 : decide (t525 < (t521.length : Int)) = true := decide_eq_true c56
          clear c56
          have H' := Aside0.mk H
          clear H
          have hnb57 := NB507_492.out
          have hnc57 := NB492_507.out
          have hnb58 := NB507_493.out
          have hnc58 := NB493_507.out
          have hnb59 := NB507_500.out
          have hnc59 := NB500_507.out
          have hnb60 := NB507_0.out
          have hnc60 := NB0_507.out
          obtain ⟨hcz61_0, hcz61_1, hcz61_2, hfz61_0, hfz61_1, hfz61_2⟩ := ch3_ BK507
          go_wp2_with (first | ((refine gc_ 156 ?_); refine ge_ 42 Try.func156 #[.int .i64 t494, .agg #[.int .i64 x508000_2, .int .i64 x508001_2, .int .i64 x508002_2]] ?_; (with_reducible refine (spec_l02Near.calls k2 t494 x508000_2 x508001_2 x508002_2 t521 true _ A52.out).mono ?_); rintro e w62 ⟨v522, rfl, ho0, hb⟩; refine ⟨_, rfl, ?_⟩; have HO523 := Aside0.mk (Kd.R_lower (Kd.R_newB (Kd.R_newB (Kd.R_newB (Kd.R_newB ho0 (g := gb492) (o := .cells #[.int .i64 0, .int .i64 0, .int .i64 0] 25 (0, 0)) (bl_ BK492).out) (g := gb493) (o := .cells #[.int .i64 0, .int .i64 0, .int .i64 0] 25 (0, 0)) (bl_ BK493).out) (g := gb500) (o := .cells #[.int .i64 t495, .int .i64 t496, .int .i64 t497] 25 (0, 0)) (bl_ BK500).out) (g := gb507) (o := .cells #[.int .i64 x508000_2, .int .i64 x508001_2, .int .i64 x508002_2] 25 (0, 0)) (bl_ BK507).out) (keep_size (w := w) (g := g) (row := none) (by repeat (first | (with_reducible first | exact HK.out | apply KeepBut.set_ | apply keep_drewN | apply keep_drew | apply keep_alloc | refine keep_far ?_ GW492.out _ | refine keep_far ?_ GW493.out _ | refine keep_far ?_ GW500.out _ | refine keep_far ?_ GW507.out _) | exact HK.out)))); replace BK492 := bb_ BK492 hb; replace BK493 := bb_ BK493 hb; replace BK500 := bb_ BK500 hb; replace BK507 := bb_ BK507 hb; replace HK := Aside0.mk (KeepBut.trans (by repeat (first | (with_reducible first | exact HK.out | apply KeepBut.set_ | apply keep_drewN | apply keep_drew | apply keep_alloc | refine keep_far ?_ GW492.out _ | refine keep_far ?_ GW493.out _ | refine keep_far ?_ GW500.out _ | refine keep_far ?_ GW507.out _) | exact HK.out)) (KeepBut.of_below hb g none) (.inl rfl)); replace HB := Aside0.mk (below_step (by repeat (first | (with_reducible first | exact HB.out | apply below_alloc | apply pw_below_drewN | apply below_drew1 | refine below_set ?_ (IsS164.ge HI0.out) | refine below_set ?_ GE492.out | refine below_set ?_ GE493.out | refine below_set ?_ GE500.out | refine below_set ?_ GE507.out) | exact HB.out)) hb); replace HI0 := Aside0.mk (IsS164.below (by repeat (first | (with_reducible first | exact HI0.out | apply IsS164.alloc | apply IsS164.drewN | apply IsS164.drew | apply IsS164.set_1 | apply IsS164.set_2 | refine IsS164.far ?_ NB0_492.out _ | refine IsS164.far ?_ NB0_493.out _ | refine IsS164.far ?_ NB0_500.out _ | refine IsS164.far ?_ NB0_507.out _) | exact HI0.out)) hb); (try clear hb); (try clear ho0)) | ((refine gc_ 108 ?_); refine ge_ 50 Try.func108 #[.pointer (some ⟨g, 0, none⟩), .int .i64 (wrap64 (t494 + 1))] ?_; (with_reducible refine (spec_l01Next.calls g s0_0 x1001_2 x1002_2 (wrap64 (t494 + 1)) t525 t526 t527 w0 _ ?side1 ?side2 A54.out).mono ?_); (case side1 => repeat (first | (with_reducible first | exact HI0.out | apply IsS164.alloc | apply IsS164.drewN | apply IsS164.drew | apply IsS164.set_1 | apply IsS164.set_2 | refine IsS164.far ?_ NB0_492.out _ | refine IsS164.far ?_ NB0_493.out _ | refine IsS164.far ?_ NB0_500.out _ | refine IsS164.far ?_ NB0_507.out _) | exact HI0.out)); (case side2 => repeat (first | (with_reducible first | exact HB.out | apply below_alloc | apply pw_below_drewN | apply below_drew1 | refine below_set ?_ (IsS164.ge HI0.out) | refine below_set ?_ GE492.out | refine below_set ?_ GE493.out | refine below_set ?_ GE500.out | refine below_set ?_ GE507.out) | exact HB.out)); rintro e w63 ⟨rfl, hi, hb, hk⟩; refine ⟨_, rfl, ?_⟩; replace BK492 := Aside0.mk (KeepBut.blk hk (g' := gb492) (o := .cells #[.int .i64 0, .int .i64 0, .int .i64 0] 25 (0, 0)) (bl_ BK492).out NB492_0.out (by simp)); replace BK493 := Aside0.mk (KeepBut.blk hk (g' := gb493) (o := .cells #[.int .i64 0, .int .i64 0, .int .i64 0] 25 (0, 0)) (bl_ BK493).out NB493_0.out (by simp)); replace BK500 := Aside0.mk (KeepBut.blk hk (g' := gb500) (o := .cells #[.int .i64 t495, .int .i64 t496, .int .i64 t497] 25 (0, 0)) (bl_ BK500).out NB500_0.out (by simp)); replace BK507 := Aside0.mk (KeepBut.blk hk (g' := gb507) (o := .cells #[.int .i64 x508000_2, .int .i64 x508001_2, .int .i64 x508002_2] 25 (0, 0)) (bl_ BK507).out NB507_0.out (by simp)); replace HO523 := Aside0.mk (Kd.R_mono (Kd.R_keep (IsS164.apart (show IsS164 w0 _ g s0_0 x1001_2 x1002_2 from by repeat (first | (with_reducible first | exact HI0.out | apply IsS164.alloc | apply IsS164.drewN | apply IsS164.drew | apply IsS164.set_1 | apply IsS164.set_2 | refine IsS164.far ?_ NB0_492.out _ | refine IsS164.far ?_ NB0_493.out _ | refine IsS164.far ?_ NB0_500.out _ | refine IsS164.far ?_ NB0_507.out _) | exact HI0.out)) (ra_ HO523.out) (by decide)) hk (fun _ h => h.2)) (fun _ h => h.1)); replace HK := Aside0.mk (KeepBut.trans (by repeat (first | (with_reducible first | exact HK.out | apply KeepBut.set_ | apply keep_drewN | apply keep_drew | apply keep_alloc | refine keep_far ?_ GW492.out _ | refine keep_far ?_ GW493.out _ | refine keep_far ?_ GW500.out _ | refine keep_far ?_ GW507.out _) | exact HK.out)) hk (.inl rfl)); replace HB := Aside0.mk (hb); replace HI0 := Aside0.mk (hi); (try clear hb); (try clear hk); (try clear hi); obtain ⟨Ao64, co64, eo64⟩ := Kd.R_slice HO523.out; subst eo64; have p528 : 0 ≤ (t525 : Int) := od_; have q528 : t525 < (t521.length : Int) := od_; obtain ⟨ad528, e528, hx528_0, hx528_1, hx528_2⟩ := at_T25 (Kd.R_reads' HO523.out).2.2 t525 p528 q528; cases e528; replace p528 := eq_true p528; replace q528 := eq_true q528; obtain ⟨hcz65_0, hcz65_1, hcz65_2, hfz65_0, hfz65_1, hfz65_2⟩ := ch3_ BK507))
          go_roundg k2
          case measure => have := HJ4.out; have := HK2.out; omega
          case rel => exact ⟨(wrap64 (x8_2 - 1)), (t526), (t527), ((rd_T25 t521 t525).f0), ((rd_T25 t521 t525).f1), ((rd_T25 t521 t525).f2), en_, H', ⟨by have := HJ4.out; have := HK2.out; omega⟩, fl_ BK492 NB492_507, fl_ BK493 NB493_507, fl_ BK500 NB500_507, bp_ BK507, ⟨by repeat (first | (with_reducible first | exact HI0.out | apply IsS164.alloc | apply IsS164.drewN | apply IsS164.drew | apply IsS164.set_1 | apply IsS164.set_2 | refine IsS164.far ?_ NB0_492.out _ | refine IsS164.far ?_ NB0_493.out _ | refine IsS164.far ?_ NB0_500.out _ | refine IsS164.far ?_ NB0_507.out _) | exact HI0.out)⟩, ⟨by repeat (first | (with_reducible first | exact HK.out | apply KeepBut.set_ | apply keep_drewN | apply keep_drew | apply keep_alloc | refine keep_far ?_ GW492.out _ | refine keep_far ?_ GW493.out _ | refine keep_far ?_ GW500.out _ | refine keep_far ?_ GW507.out _) | exact HK.out)⟩, ⟨by repeat (first | (with_reducible first | exact HB.out | apply below_alloc | apply pw_below_drewN | apply below_drew1 | refine below_set ?_ (IsS164.ge HI0.out) | refine below_set ?_ GE492.out | refine below_set ?_ GE493.out | refine below_set ?_ GE500.out | refine below_set ?_ GE507.out) | exact HB.out)⟩⟩
         ·rw [if_neg c56] at H
          exact absurd H (by simp)
        ·rw [if_neg c55] at H
         exact absurd H (by simp)
       ·replace c53 := Bool.eq_false_iff.mpr c53
        subst c53
        have H1 : (spec_l02Two.l0 k2 t494 (wrap64 (x8_2 - 1)) s0_0 x1001_2 x1002_2 t495 t496 t497 x508000_2 x508001_2 x508002_2) = some (r1, r2, r3, r4, r5, r6, r7, r8, r9) := by rw [if_neg (show ¬ (false = true) by decide)] at H; exact H
        clear H
        have H := H1
        clear H1
        have H' := Aside0.mk H
        clear H
        have hnb66 := NB507_492.out
        have hnc66 := NB492_507.out
        have hnb67 := NB507_493.out
        have hnc67 := NB493_507.out
        have hnb68 := NB507_500.out
        have hnc68 := NB500_507.out
        have hnb69 := NB507_0.out
        have hnc69 := NB0_507.out
        obtain ⟨hcz70_0, hcz70_1, hcz70_2, hfz70_0, hfz70_1, hfz70_2⟩ := ch3_ BK507
        go_wp2_with (first | ((refine gc_ 156 ?_); refine ge_ 42 Try.func156 #[.int .i64 t494, .agg #[.int .i64 x508000_2, .int .i64 x508001_2, .int .i64 x508002_2]] ?_; (with_reducible refine (spec_l02Near.calls k2 t494 x508000_2 x508001_2 x508002_2 t521 false _ A52.out).mono ?_); rintro e w71 ⟨v522, rfl, ho0, hb⟩; refine ⟨_, rfl, ?_⟩; have HO523 := Aside0.mk (Kd.R_lower (Kd.R_newB (Kd.R_newB (Kd.R_newB (Kd.R_newB ho0 (g := gb492) (o := .cells #[.int .i64 0, .int .i64 0, .int .i64 0] 25 (0, 0)) (bl_ BK492).out) (g := gb493) (o := .cells #[.int .i64 0, .int .i64 0, .int .i64 0] 25 (0, 0)) (bl_ BK493).out) (g := gb500) (o := .cells #[.int .i64 t495, .int .i64 t496, .int .i64 t497] 25 (0, 0)) (bl_ BK500).out) (g := gb507) (o := .cells #[.int .i64 x508000_2, .int .i64 x508001_2, .int .i64 x508002_2] 25 (0, 0)) (bl_ BK507).out) (keep_size (w := w) (g := g) (row := none) (by repeat (first | (with_reducible first | exact HK.out | apply KeepBut.set_ | apply keep_drewN | apply keep_drew | apply keep_alloc | refine keep_far ?_ GW492.out _ | refine keep_far ?_ GW493.out _ | refine keep_far ?_ GW500.out _ | refine keep_far ?_ GW507.out _) | exact HK.out)))); replace BK492 := bb_ BK492 hb; replace BK493 := bb_ BK493 hb; replace BK500 := bb_ BK500 hb; replace BK507 := bb_ BK507 hb; replace HK := Aside0.mk (KeepBut.trans (by repeat (first | (with_reducible first | exact HK.out | apply KeepBut.set_ | apply keep_drewN | apply keep_drew | apply keep_alloc | refine keep_far ?_ GW492.out _ | refine keep_far ?_ GW493.out _ | refine keep_far ?_ GW500.out _ | refine keep_far ?_ GW507.out _) | exact HK.out)) (KeepBut.of_below hb g none) (.inl rfl)); replace HB := Aside0.mk (below_step (by repeat (first | (with_reducible first | exact HB.out | apply below_alloc | apply pw_below_drewN | apply below_drew1 | refine below_set ?_ (IsS164.ge HI0.out) | refine below_set ?_ GE492.out | refine below_set ?_ GE493.out | refine below_set ?_ GE500.out | refine below_set ?_ GE507.out) | exact HB.out)) hb); replace HI0 := Aside0.mk (IsS164.below (by repeat (first | (with_reducible first | exact HI0.out | apply IsS164.alloc | apply IsS164.drewN | apply IsS164.drew | apply IsS164.set_1 | apply IsS164.set_2 | refine IsS164.far ?_ NB0_492.out _ | refine IsS164.far ?_ NB0_493.out _ | refine IsS164.far ?_ NB0_500.out _ | refine IsS164.far ?_ NB0_507.out _) | exact HI0.out)) hb); (try clear hb); (try clear ho0)))
        go_roundg k2
        case measure => have := HJ4.out; have := HK2.out; omega
        case rel => exact ⟨(wrap64 (x8_2 - 1)), (x1001_2), (x1002_2), (x508000_2), (x508001_2), (x508002_2), en_, H', ⟨by have := HJ4.out; have := HK2.out; omega⟩, bl_ BK492, bl_ BK493, bl_ BK500, bl_ BK507, ⟨by repeat (first | (with_reducible first | exact HI0.out | apply IsS164.alloc | apply IsS164.drewN | apply IsS164.drew | apply IsS164.set_1 | apply IsS164.set_2 | refine IsS164.far ?_ NB0_492.out _ | refine IsS164.far ?_ NB0_493.out _ | refine IsS164.far ?_ NB0_500.out _ | refine IsS164.far ?_ NB0_507.out _) | exact HI0.out)⟩, ⟨by repeat (first | (with_reducible first | exact HK.out | apply KeepBut.set_ | apply keep_drewN | apply keep_drew | apply keep_alloc | refine keep_far ?_ GW492.out _ | refine keep_far ?_ GW493.out _ | refine keep_far ?_ GW500.out _ | refine keep_far ?_ GW507.out _) | exact HK.out)⟩, ⟨by repeat (first | (with_reducible first | exact HB.out | apply below_alloc | apply pw_below_drewN | apply below_drew1 | refine below_set ?_ (IsS164.ge HI0.out) | refine below_set ?_ GE492.out | refine below_set ?_ GE493.out | refine below_set ?_ GE500.out | refine below_set ?_ GE507.out) | exact HB.out)⟩⟩
      ·rw [if_neg c51] at H
       have c51b0 : decide (0 < x8_2) = false := decide_eq_false c51
       clear c51
       replace H := ob_ H
       obtain ⟨⟨t516, t517, t518, t519, t520⟩, A720, H⟩ := H
       have A72 := Aside0.mk A720
       clear A720
       simp only [Option.some.injEq, Prod.mk.injEq] at H
       obtain ⟨rfl, rfl, rfl, rfl, rfl, rfl, rfl, rfl, rfl⟩ := H
       try go_wp2
       replace BK492 := Aside0.mk (blk_drew BK492.out)
       replace BK493 := Aside0.mk (blk_drew BK493.out)
       replace BK500 := Aside0.mk (blk_drew BK500.out)
       replace BK507 := Aside0.mk (blk_drew BK507.out)
       replace HI0 := Aside0.mk (IsS164.drew HI0.out)
       replace HK := Aside0.mk (keep_drew HK.out)
       replace HB := Aside0.mk (below_drew1 HB.out)
       refine start_ (n := 8) (S := fun w' => w'.cell? ⟨gb500, 0, none⟩ = some (.int .i64 t495) ∧ w'.cell? ⟨gb500, 1, none⟩ = some (.int .i64 t496) ∧ w'.cell? ⟨gb500, 2, none⟩ = some (.int .i64 t497) ∧ w'.cell? ⟨gb507, 0, none⟩ = some (.int .i64 x508000_2) ∧ w'.cell? ⟨gb507, 1, none⟩ = some (.int .i64 x508001_2) ∧ w'.cell? ⟨gb507, 2, none⟩ = some (.int .i64 x508002_2)) (ds := []) (bv_ 8 0) (by kernel_rfl) rfl rfl ⟨cz_ BK500 0, cz_ BK500 1, cz_ BK500 2, cz_ BK507 0, cz_ BK507 1, cz_ BK507 2⟩ (fun hHeld => ?_); refine with_tabW spec_l02Two.tab11 spec_l02Two.bits11 (fun HT_ HW_ => ?_)
       generalize wr.drew = w73 at BK492 BK493 BK500 BK507 HI0 HK HB hHeld ⊢
       refine px_ HT_ 0 53 1 ?_
       refine px_ HT_ 2 55 5 ?_
       refine ta_ HT_ HW_ 1 (some 54) (bv_ 8 7) hHeld ?_ (hy := by rintro w' ⟨s0, s1, s2, s3, s4, s5⟩; go_simp; with_reducible rfl)
       refine ta_ HT_ HW_ 3 (some 56) (bv_ 8 15) hHeld ?_ (hy := by rintro w' ⟨s0, s1, s2, s3, s4, s5⟩; go_simp; with_reducible rfl)
       refine on_ HT_ 4 (some 57) (bv_ 8 31) (fun K hK => ?_)
       refine gs_ Try.func148 #[.pointer (some ⟨g, 0, none⟩), .agg #[.int .i64 x508000_2, .int .i64 x508001_2, .int .i64 x508002_2]] ?_
       with_reducible refine (spec_l01Bad.calls g s0_0 x1001_2 x1002_2 x508000_2 x508001_2 x508002_2 t516 t517 t518 t519 t520 w0 _ ?side1 ?side2 A72.out).mono ?_
       (case side1 => repeat (first | (with_reducible first | exact HI0.out | apply IsS164.alloc | apply IsS164.drewN | apply IsS164.drew | apply IsS164.set_1 | apply IsS164.set_2 | refine IsS164.far ?_ NB0_492.out _ | refine IsS164.far ?_ NB0_493.out _ | refine IsS164.far ?_ NB0_500.out _ | refine IsS164.far ?_ NB0_507.out _) | exact HI0.out))
       (case side2 => repeat (first | (with_reducible first | exact HB.out | apply below_alloc | apply pw_below_drewN | apply below_drew1 | refine below_set ?_ (IsS164.ge HI0.out) | refine below_set ?_ GE492.out | refine below_set ?_ GE493.out | refine below_set ?_ GE500.out | refine below_set ?_ GE507.out) | exact HB.out))
       rintro e w74 ⟨rfl, hi, hb, hk⟩
       refine ⟨_, rfl, ?_⟩
       replace BK492 := Aside0.mk (KeepBut.blk hk (g' := gb492) (o := .cells #[.int .i64 0, .int .i64 0, .int .i64 0] 25 (0, 0)) (bl_ BK492).out NB492_0.out (by simp))
       replace BK493 := Aside0.mk (KeepBut.blk hk (g' := gb493) (o := .cells #[.int .i64 0, .int .i64 0, .int .i64 0] 25 (0, 0)) (bl_ BK493).out NB493_0.out (by simp))
       replace BK500 := Aside0.mk (KeepBut.blk hk (g' := gb500) (o := .cells #[.int .i64 t495, .int .i64 t496, .int .i64 t497] 25 (0, 0)) (bl_ BK500).out NB500_0.out (by simp))
       replace BK507 := Aside0.mk (KeepBut.blk hk (g' := gb507) (o := .cells #[.int .i64 x508000_2, .int .i64 x508001_2, .int .i64 x508002_2] 25 (0, 0)) (bl_ BK507).out NB507_0.out (by simp))
       replace HK := Aside0.mk (KeepBut.trans (by repeat (first | (with_reducible first | exact HK.out | apply KeepBut.set_ | apply keep_drewN | apply keep_drew | apply keep_alloc | refine keep_far ?_ GW492.out _ | refine keep_far ?_ GW493.out _ | refine keep_far ?_ GW500.out _ | refine keep_far ?_ GW507.out _) | exact HK.out)) hk (.inl rfl))
       replace HB := Aside0.mk (hb)
       replace HI0 := Aside0.mk (hi)
       (try clear hb)
       (try clear hb2)
       (try clear hk)
       (try clear hi)
       refine hK.out _ _ ⟨cz_ BK500 0, cz_ BK500 1, cz_ BK500 2, cz_ BK507 0, cz_ BK507 1, cz_ BK507 2⟩ (fun hHeld => ?_)
       clear hK K
       refine nm_ (some 57) ?_
       refine px_ HT_ 5 2 63 ?_
       refine on_ HT_ 6 none (bv_ 8 127) (fun K hK => ?_)
       have hs75 : w74.cell? ⟨gb492, 0, none⟩ = some (.int .i64 0) := (blk_cell BK492.out 0).trans rfl
       have hfs75 := blk_frozen BK492.out 0
       have hns75_1 := NB493_492.out
       have hns75_2 := NB500_492.out
       have hns75_3 := NB507_492.out
       have hms75_1 := NB492_493.out
       have hms75_2 := NB492_500.out
       have hms75_3 := NB492_507.out
       have hs76 : w74.cell? ⟨gb492, 1, none⟩ = some (.int .i64 0) := (blk_cell BK492.out 1).trans rfl
       have hfs76 := blk_frozen BK492.out 1
       have hns76_1 := NB493_492.out
       have hns76_2 := NB500_492.out
       have hns76_3 := NB507_492.out
       have hms76_1 := NB492_493.out
       have hms76_2 := NB492_500.out
       have hms76_3 := NB492_507.out
       have hs77 : w74.cell? ⟨gb492, 2, none⟩ = some (.int .i64 0) := (blk_cell BK492.out 2).trans rfl
       have hfs77 := blk_frozen BK492.out 2
       have hns77_1 := NB493_492.out
       have hns77_2 := NB500_492.out
       have hns77_3 := NB507_492.out
       have hms77_1 := NB492_493.out
       have hms77_2 := NB492_500.out
       have hms77_3 := NB492_507.out
       refine skip_ (w1 := ?_) (by rfl) rfl ?_ ?_
       rotate_left
       ·go_simp
        rfl
       refine hK.out _ _ ⟨(cg_ NB500_492 ((cg_ NB500_492 ((cg_ NB500_492 (hHeld.1)))))), (cg_ NB500_492 ((cg_ NB500_492 ((cg_ NB500_492 (hHeld.2.1)))))), (cg_ NB500_492 ((cg_ NB500_492 ((cg_ NB500_492 (hHeld.2.2.1)))))), (cg_ NB507_492 ((cg_ NB507_492 ((cg_ NB507_492 (hHeld.2.2.2.1)))))), (cg_ NB507_492 ((cg_ NB507_492 ((cg_ NB507_492 (hHeld.2.2.2.2.1)))))), (cg_ NB507_492 ((cg_ NB507_492 ((cg_ NB507_492 (hHeld.2.2.2.2.2))))))⟩ (fun hHeld => ?_)
       clear hK K
       refine on_ HT_ 7 none (bv_ 8 255) (fun K hK => ?_)
       have hs78 : w74.cell? ⟨gb493, 0, none⟩ = some (.int .i64 0) := (blk_cell BK493.out 0).trans rfl
       have hfs78 := blk_frozen BK493.out 0
       have hns78_0 := NB492_493.out
       have hns78_2 := NB500_493.out
       have hns78_3 := NB507_493.out
       have hms78_0 := NB493_492.out
       have hms78_2 := NB493_500.out
       have hms78_3 := NB493_507.out
       have hs79 : w74.cell? ⟨gb493, 1, none⟩ = some (.int .i64 0) := (blk_cell BK493.out 1).trans rfl
       have hfs79 := blk_frozen BK493.out 1
       have hns79_0 := NB492_493.out
       have hns79_2 := NB500_493.out
       have hns79_3 := NB507_493.out
       have hms79_0 := NB493_492.out
       have hms79_2 := NB493_500.out
       have hms79_3 := NB493_507.out
       have hs80 : w74.cell? ⟨gb493, 2, none⟩ = some (.int .i64 0) := (blk_cell BK493.out 2).trans rfl
       have hfs80 := blk_frozen BK493.out 2
       have hns80_0 := NB492_493.out
       have hns80_2 := NB500_493.out
       have hns80_3 := NB507_493.out
       have hms80_0 := NB493_492.out
       have hms80_2 := NB493_500.out
       have hms80_3 := NB493_507.out
       refine skip_ (w1 := ?_) (by rfl) rfl ?_ ?_
       rotate_left
       ·go_simp
        rfl
       refine hK.out _ _ ⟨(cg_ NB500_493 ((cg_ NB500_493 ((cg_ NB500_493 (hHeld.1)))))), (cg_ NB500_493 ((cg_ NB500_493 ((cg_ NB500_493 (hHeld.2.1)))))), (cg_ NB500_493 ((cg_ NB500_493 ((cg_ NB500_493 (hHeld.2.2.1)))))), (cg_ NB507_493 ((cg_ NB507_493 ((cg_ NB507_493 (hHeld.2.2.2.1)))))), (cg_ NB507_493 ((cg_ NB507_493 ((cg_ NB507_493 (hHeld.2.2.2.2.1)))))), (cg_ NB507_493 ((cg_ NB507_493 ((cg_ NB507_493 (hHeld.2.2.2.2.2))))))⟩ (fun hHeld => ?_)
       clear hK K
       refine done_ (done_of HT_.out (by kernel_rfl)) ?_
       try go_wp2
       refine bodyPost_ret (results_list (rs := [.tmp 2, .cell 3 25, .cell 4 25]) rfl (by simp) (.tmp (.cell gb492 25 #[.int .i64 t495, .int .i64 t496, .int .i64 t497] (0, 0) _ rfl (bp_ BK492).out Try.underlying25 rfl (by kernel_rfl) (.cell gb493 25 #[.int .i64 t516, .int .i64 t517, .int .i64 t518] (0, 0) _ rfl (bp_ BK493).out Try.underlying25 rfl (by kernel_rfl) .nil)))) rfl ?_
       exact ⟨es_, by repeat (first | (with_reducible first | exact HI0.out | apply IsS164.alloc | apply IsS164.drewN | apply IsS164.drew | apply IsS164.set_1 | apply IsS164.set_2 | refine IsS164.far ?_ NB0_492.out _ | refine IsS164.far ?_ NB0_493.out _ | refine IsS164.far ?_ NB0_500.out _ | refine IsS164.far ?_ NB0_507.out _) | exact HI0.out), by repeat (first | (with_reducible first | exact HB.out | apply below_alloc | apply pw_below_drewN | apply below_drew1 | refine below_set ?_ (IsS164.ge HI0.out) | refine below_set ?_ GE492.out | refine below_set ?_ GE493.out | refine below_set ?_ GE500.out | refine below_set ?_ GE507.out) | exact HB.out), by repeat (first | (with_reducible first | exact HK.out | apply KeepBut.set_ | apply keep_drewN | apply keep_drew | apply keep_alloc | refine keep_far ?_ GW492.out _ | refine keep_far ?_ GW493.out _ | refine keep_far ?_ GW500.out _ | refine keep_far ?_ GW507.out _) | exact HK.out)⟩
   ·replace c39 := Bool.eq_false_iff.mpr c39
    subst c39
    have H1 : ((spec_l01Bad.f s0_0 x1001_4 x1002_4 t502 t503 t504).bind fun bt529 => (some (t494, t495, t496, t497, bt529.1, bt529.2.1, bt529.2.2.1, bt529.2.2.2.1, bt529.2.2.2.2))) = some (r1, r2, r3, r4, r5, r6, r7, r8, r9) := by rw [if_neg (show ¬ (false = true) by decide)] at H; exact H
    clear H
    have H := H1
    clear H1
    replace H := ob_ H
    obtain ⟨⟨t529, t530, t531, t532, t533⟩, A810, H⟩ := H
    have A81 := Aside0.mk A810
    clear A810
    simp only [Option.some.injEq, Prod.mk.injEq] at H
    obtain ⟨rfl, rfl, rfl, rfl, rfl, rfl, rfl, rfl, rfl⟩ := H
    try go_wp2
    replace BK492 := Aside0.mk (blk_drew BK492.out)
    replace BK493 := Aside0.mk (blk_drew BK493.out)
    replace BK500 := Aside0.mk (blk_drew BK500.out)
    replace BK507 := Aside0.mk (blk_drew BK507.out)
    replace HI0 := Aside0.mk (IsS164.drew HI0.out)
    replace HK := Aside0.mk (keep_drew HK.out)
    replace HB := Aside0.mk (below_drew1 HB.out)
    refine start_ (n := 8) (S := fun w' => w'.cell? ⟨gb500, 0, none⟩ = some (.int .i64 t495) ∧ w'.cell? ⟨gb500, 1, none⟩ = some (.int .i64 t496) ∧ w'.cell? ⟨gb500, 2, none⟩ = some (.int .i64 t497) ∧ w'.cell? ⟨gb507, 0, none⟩ = some (.int .i64 t502) ∧ w'.cell? ⟨gb507, 1, none⟩ = some (.int .i64 t503) ∧ w'.cell? ⟨gb507, 2, none⟩ = some (.int .i64 t504)) (ds := []) (bv_ 8 0) (by kernel_rfl) rfl rfl ⟨cz_ BK500 0, cz_ BK500 1, cz_ BK500 2, cz_ BK507 0, cz_ BK507 1, cz_ BK507 2⟩ (fun hHeld => ?_); refine with_tabW spec_l02Two.tab11 spec_l02Two.bits11 (fun HT_ HW_ => ?_)
    generalize wc.drew = w82 at BK492 BK493 BK500 BK507 HI0 HK HB hHeld ⊢
    refine px_ HT_ 0 53 1 ?_
    refine px_ HT_ 2 55 5 ?_
    refine ta_ HT_ HW_ 1 (some 54) (bv_ 8 7) hHeld ?_ (hy := by rintro w' ⟨s0, s1, s2, s3, s4, s5⟩; go_simp; with_reducible rfl)
    refine ta_ HT_ HW_ 3 (some 56) (bv_ 8 15) hHeld ?_ (hy := by rintro w' ⟨s0, s1, s2, s3, s4, s5⟩; go_simp; with_reducible rfl)
    refine on_ HT_ 4 (some 57) (bv_ 8 31) (fun K hK => ?_)
    refine gs_ Try.func148 #[.pointer (some ⟨g, 0, none⟩), .agg #[.int .i64 t502, .int .i64 t503, .int .i64 t504]] ?_
    with_reducible refine (spec_l01Bad.calls g s0_0 x1001_4 x1002_4 t502 t503 t504 t529 t530 t531 t532 t533 w0 _ ?side1 ?side2 A81.out).mono ?_
    (case side1 => repeat (first | (with_reducible first | exact HI0.out | apply IsS164.alloc | apply IsS164.drewN | apply IsS164.drew | apply IsS164.set_1 | apply IsS164.set_2 | refine IsS164.far ?_ NB0_492.out _ | refine IsS164.far ?_ NB0_493.out _ | refine IsS164.far ?_ NB0_500.out _ | refine IsS164.far ?_ NB0_507.out _) | exact HI0.out))
    (case side2 => repeat (first | (with_reducible first | exact HB.out | apply below_alloc | apply pw_below_drewN | apply below_drew1 | refine below_set ?_ (IsS164.ge HI0.out) | refine below_set ?_ GE492.out | refine below_set ?_ GE493.out | refine below_set ?_ GE500.out | refine below_set ?_ GE507.out) | exact HB.out))
    rintro e w83 ⟨rfl, hi, hb, hk⟩
    refine ⟨_, rfl, ?_⟩
    replace BK492 := Aside0.mk (KeepBut.blk hk (g' := gb492) (o := .cells #[.int .i64 0, .int .i64 0, .int .i64 0] 25 (0, 0)) (bl_ BK492).out NB492_0.out (by simp))
    replace BK493 := Aside0.mk (KeepBut.blk hk (g' := gb493) (o := .cells #[.int .i64 0, .int .i64 0, .int .i64 0] 25 (0, 0)) (bl_ BK493).out NB493_0.out (by simp))
    replace BK500 := Aside0.mk (KeepBut.blk hk (g' := gb500) (o := .cells #[.int .i64 t495, .int .i64 t496, .int .i64 t497] 25 (0, 0)) (bl_ BK500).out NB500_0.out (by simp))
    replace BK507 := Aside0.mk (KeepBut.blk hk (g' := gb507) (o := .cells #[.int .i64 t502, .int .i64 t503, .int .i64 t504] 25 (0, 0)) (bl_ BK507).out NB507_0.out (by simp))
    replace HK := Aside0.mk (KeepBut.trans (by repeat (first | (with_reducible first | exact HK.out | apply KeepBut.set_ | apply keep_drewN | apply keep_drew | apply keep_alloc | refine keep_far ?_ GW492.out _ | refine keep_far ?_ GW493.out _ | refine keep_far ?_ GW500.out _ | refine keep_far ?_ GW507.out _) | exact HK.out)) hk (.inl rfl))
    replace HB := Aside0.mk (hb)
    replace HI0 := Aside0.mk (hi)
    (try clear hb)
    (try clear hb2)
    (try clear hk)
    (try clear hi)
    refine hK.out _ _ ⟨cz_ BK500 0, cz_ BK500 1, cz_ BK500 2, cz_ BK507 0, cz_ BK507 1, cz_ BK507 2⟩ (fun hHeld => ?_)
    clear hK K
    refine nm_ (some 57) ?_
    refine px_ HT_ 5 2 63 ?_
    refine on_ HT_ 6 none (bv_ 8 127) (fun K hK => ?_)
    have hs84 : w83.cell? ⟨gb492, 0, none⟩ = some (.int .i64 0) := (blk_cell BK492.out 0).trans rfl
    have hfs84 := blk_frozen BK492.out 0
    have hns84_1 := NB493_492.out
    have hns84_2 := NB500_492.out
    have hns84_3 := NB507_492.out
    have hms84_1 := NB492_493.out
    have hms84_2 := NB492_500.out
    have hms84_3 := NB492_507.out
    have hs85 : w83.cell? ⟨gb492, 1, none⟩ = some (.int .i64 0) := (blk_cell BK492.out 1).trans rfl
    have hfs85 := blk_frozen BK492.out 1
    have hns85_1 := NB493_492.out
    have hns85_2 := NB500_492.out
    have hns85_3 := NB507_492.out
    have hms85_1 := NB492_493.out
    have hms85_2 := NB492_500.out
    have hms85_3 := NB492_507.out
    have hs86 : w83.cell? ⟨gb492, 2, none⟩ = some (.int .i64 0) := (blk_cell BK492.out 2).trans rfl
    have hfs86 := blk_frozen BK492.out 2
    have hns86_1 := NB493_492.out
    have hns86_2 := NB500_492.out
    have hns86_3 := NB507_492.out
    have hms86_1 := NB492_493.out
    have hms86_2 := NB492_500.out
    have hms86_3 := NB492_507.out
    refine skip_ (w1 := ?_) (by rfl) rfl ?_ ?_
    rotate_left
    ·go_simp
     rfl
    refine hK.out _ _ ⟨(cg_ NB500_492 ((cg_ NB500_492 ((cg_ NB500_492 (hHeld.1)))))), (cg_ NB500_492 ((cg_ NB500_492 ((cg_ NB500_492 (hHeld.2.1)))))), (cg_ NB500_492 ((cg_ NB500_492 ((cg_ NB500_492 (hHeld.2.2.1)))))), (cg_ NB507_492 ((cg_ NB507_492 ((cg_ NB507_492 (hHeld.2.2.2.1)))))), (cg_ NB507_492 ((cg_ NB507_492 ((cg_ NB507_492 (hHeld.2.2.2.2.1)))))), (cg_ NB507_492 ((cg_ NB507_492 ((cg_ NB507_492 (hHeld.2.2.2.2.2))))))⟩ (fun hHeld => ?_)
    clear hK K
    refine on_ HT_ 7 none (bv_ 8 255) (fun K hK => ?_)
    have hs87 : w83.cell? ⟨gb493, 0, none⟩ = some (.int .i64 0) := (blk_cell BK493.out 0).trans rfl
    have hfs87 := blk_frozen BK493.out 0
    have hns87_0 := NB492_493.out
    have hns87_2 := NB500_493.out
    have hns87_3 := NB507_493.out
    have hms87_0 := NB493_492.out
    have hms87_2 := NB493_500.out
    have hms87_3 := NB493_507.out
    have hs88 : w83.cell? ⟨gb493, 1, none⟩ = some (.int .i64 0) := (blk_cell BK493.out 1).trans rfl
    have hfs88 := blk_frozen BK493.out 1
    have hns88_0 := NB492_493.out
    have hns88_2 := NB500_493.out
    have hns88_3 := NB507_493.out
    have hms88_0 := NB493_492.out
    have hms88_2 := NB493_500.out
    have hms88_3 := NB493_507.out
    have hs89 : w83.cell? ⟨gb493, 2, none⟩ = some (.int .i64 0) := (blk_cell BK493.out 2).trans rfl
    have hfs89 := blk_frozen BK493.out 2
    have hns89_0 := NB492_493.out
    have hns89_2 := NB500_493.out
    have hns89_3 := NB507_493.out
    have hms89_0 := NB493_492.out
    have hms89_2 := NB493_500.out
    have hms89_3 := NB493_507.out
    refine skip_ (w1 := ?_) (by rfl) rfl ?_ ?_
    rotate_left
    ·go_simp
     rfl
    refine hK.out _ _ ⟨(cg_ NB500_493 ((cg_ NB500_493 ((cg_ NB500_493 (hHeld.1)))))), (cg_ NB500_493 ((cg_ NB500_493 ((cg_ NB500_493 (hHeld.2.1)))))), (cg_ NB500_493 ((cg_ NB500_493 ((cg_ NB500_493 (hHeld.2.2.1)))))), (cg_ NB507_493 ((cg_ NB507_493 ((cg_ NB507_493 (hHeld.2.2.2.1)))))), (cg_ NB507_493 ((cg_ NB507_493 ((cg_ NB507_493 (hHeld.2.2.2.2.1)))))), (cg_ NB507_493 ((cg_ NB507_493 ((cg_ NB507_493 (hHeld.2.2.2.2.2))))))⟩ (fun hHeld => ?_)
    clear hK K
    refine done_ (done_of HT_.out (by kernel_rfl)) ?_
    try go_wp2
    refine bodyPost_ret (results_list (rs := [.tmp 2, .cell 3 25, .cell 4 25]) rfl (by simp) (.tmp (.cell gb492 25 #[.int .i64 t495, .int .i64 t496, .int .i64 t497] (0, 0) _ rfl (bp_ BK492).out Try.underlying25 rfl (by kernel_rfl) (.cell gb493 25 #[.int .i64 t529, .int .i64 t530, .int .i64 t531] (0, 0) _ rfl (bp_ BK493).out Try.underlying25 rfl (by kernel_rfl) .nil)))) rfl ?_
    exact ⟨es_, by repeat (first | (with_reducible first | exact HI0.out | apply IsS164.alloc | apply IsS164.drewN | apply IsS164.drew | apply IsS164.set_1 | apply IsS164.set_2 | refine IsS164.far ?_ NB0_492.out _ | refine IsS164.far ?_ NB0_493.out _ | refine IsS164.far ?_ NB0_500.out _ | refine IsS164.far ?_ NB0_507.out _) | exact HI0.out), by repeat (first | (with_reducible first | exact HB.out | apply below_alloc | apply pw_below_drewN | apply below_drew1 | refine below_set ?_ (IsS164.ge HI0.out) | refine below_set ?_ GE492.out | refine below_set ?_ GE493.out | refine below_set ?_ GE500.out | refine below_set ?_ GE507.out) | exact HB.out), by repeat (first | (with_reducible first | exact HK.out | apply KeepBut.set_ | apply keep_drewN | apply keep_drew | apply keep_alloc | refine keep_far ?_ GW492.out _ | refine keep_far ?_ GW493.out _ | refine keep_far ?_ GW500.out _ | refine keep_far ?_ GW507.out _) | exact HK.out)⟩
end Go.Proofs.Ytgoeelhiffbjlaa.QR
