import Derived.Test.YtdfcoebadjhjlaaQHx7
import Derived.Test.YtdfcoebadjhjlaaQHx44
import Derived.Ground.SlgcProg
import Derived.Ground.SlsfProg
import Derived.Shelf.SlGeneric
import Derived.Shelf.SlSortCmp.NoneTotal
import Derived.Shelf.SlicesG.Cmp
namespace Go.Proofs.Ytdfcoebadjhjlaa.QH
set_option maxHeartbeats 8000000
set_option maxRecDepth 100000
open Go.RowKit Go.Proofs.YtdfcoebadjhjlaaW.PrintWords Go.Proofs.YtdfcoebadjhjlaaW.PrintLast Go.Proofs.YtdfcoebadjhjlaaW.PrintMore
attribute [local go_sem] isSome_setCell max2_int min2_int max_two min_two max_three min_three max_four min_four
set_option linter.unusedVariables false
set_option linter.unusedSimpArgs false

/-! ### impl_sorted: function 52 -/
def sort82_ren : Go.Shelf.Ren := ⟨fun | 6 => 82 | 15 => 98 | 14 => 97 | 28 => 112 | 29 => 113 | 20 => 104 | 21 => 105 | 22 => 106 | 23 => 107 | 24 => 108 | 25 => 109 | 26 => 110 | 27 => 111 | 46 => 114 | 47 => 115 | 48 => 116 | 49 => 117 | 50 => 118 | 57 => 119 | n => n, fun | 22 => 32 | 24 => 72 | 25 => 112 | 3 => 3 | 39 => 120 | 0 => 0 | 53 => 131 | 55 => 133 | 4 => 4 | 46 => 124 | 45 => 123 | 50 => 128 | 5 => 5 | 9 => 9 | 66 => 134 | 70 => 138 | 76 => 140 | 77 => 141 | n => n, fun | n => n⟩
theorem sort82 : Go.Proofs.SlLaysF0.n6 Try.prog sort82_ren := {
  mixed := by kernel_rfl
  f6 := ⟨Try.f82.name, by decide, Try.func82.trans (congrArg some (by kernel_rfl))⟩
  f14 := ⟨Try.f97.name, by decide, Try.func97.trans (congrArg some (by kernel_rfl))⟩
  f15 := Try.func98.trans (congrArg some (by kernel_rfl))
  f20 := ⟨Try.f104.name, by decide, Try.func104.trans (congrArg some (by kernel_rfl))⟩
  f21 := ⟨Try.f105.name, by decide, Try.func105.trans (congrArg some (by kernel_rfl))⟩
  f22 := ⟨Try.f106.name, by decide, Try.func106.trans (congrArg some (by kernel_rfl))⟩
  f23 := ⟨Try.f107.name, by decide, Try.func107.trans (congrArg some (by kernel_rfl))⟩
  f24 := ⟨Try.f108.name, by decide, Try.func108.trans (congrArg some (by kernel_rfl))⟩
  f25 := ⟨Try.f109.name, by decide, Try.func109.trans (congrArg some (by kernel_rfl))⟩
  f26 := ⟨Try.f110.name, by decide, Try.func110.trans (congrArg some (by kernel_rfl))⟩
  f27 := ⟨Try.f111.name, by decide, Try.func111.trans (congrArg some (by kernel_rfl))⟩
  f28 := Try.func112.trans (congrArg some (by kernel_rfl))
  f29 := Try.func113.trans (congrArg some (by kernel_rfl))
  f46 := ⟨Try.f114.name, by decide, Try.func114.trans (congrArg some (by kernel_rfl))⟩
  f47 := Try.func115.trans (congrArg some (by kernel_rfl))
  f48 := Try.func116.trans (congrArg some (by kernel_rfl))
  f49 := ⟨Try.f117.name, by decide, Try.func117.trans (congrArg some (by kernel_rfl))⟩
  f50 := ⟨Try.f118.name, by decide, Try.func118.trans (congrArg some (by kernel_rfl))⟩
  f57 := ⟨Try.f119.name, by decide, Try.func119.trans (congrArg some (by kernel_rfl))⟩
  t0 := Try.underlying0
  a0 := Try.isAgg0
  z0 := Try.sizeOf0
  v0 := Try.zeroValue0
  t3 := Try.underlying3
  a3 := Try.isAgg3
  z3 := Try.sizeOf3
  v3 := Try.zeroValue3
  t4 := Try.underlying4
  a4 := Try.isAgg4
  z4 := Try.sizeOf4
  v4 := Try.zeroValue4
  t5 := Try.underlying5
  a5 := Try.isAgg5
  z5 := Try.sizeOf5
  v5 := Try.zeroValue5
  t9 := Try.underlying9
  a9 := Try.isAgg9
  z9 := Try.sizeOf9
  v9 := Try.zeroValue9
  t22 := Try.underlying32
  a22 := Try.isAgg32
  z22 := Try.sizeOf32
  v22 := Try.zeroValue32
  t25 := Try.underlying112
  a25 := Try.isAgg112
  z25 := Try.sizeOf112
  v25 := Try.zeroValue112
  t39 := Try.underlying120
  a39 := Try.isAgg120
  z39 := Try.sizeOf120
  v39 := Try.zeroValue120
  t45 := Try.underlying123
  a45 := Try.isAgg123
  z45 := Try.sizeOf123
  v45 := Try.zeroValue123
  t46 := Try.underlying124
  a46 := Try.isAgg124
  z46 := Try.sizeOf124
  v46 := Try.zeroValue124
  t50 := Try.underlying128
  a50 := Try.isAgg128
  z50 := Try.sizeOf128
  v50 := Try.zeroValue128
  t53 := Try.underlying131
  a53 := Try.isAgg131
  z53 := Try.sizeOf131
  v53 := Try.zeroValue131
  t55 := Try.underlying133
  a55 := Try.isAgg133
  z55 := Try.sizeOf133
  v55 := Try.zeroValue133
  t66 := Try.underlying134
  a66 := Try.isAgg134
  z66 := Try.sizeOf134
  v66 := Try.zeroValue134
  t70 := Try.underlying138
  a70 := Try.isAgg138
  z70 := Try.sizeOf138
  v70 := Try.zeroValue138
  t76 := Try.underlying140
  a76 := Try.isAgg140
  z76 := Try.sizeOf140
  v76 := Try.zeroValue140
  t77 := Try.underlying141
  a77 := Try.isAgg141
  z77 := Try.sizeOf141
  v77 := Try.zeroValue141 }
def cmp84_ren : Go.Shelf.Ren := ⟨fun | 5 => 84 | 7 => 99 | n => n, fun | 22 => 2 | 3 => 3 | 4 => 4 | n => n, fun | n => n⟩
theorem cmp84 : Go.Proofs.SlLaysC2.n5 Try.prog cmp84_ren := {
  mixed := by kernel_rfl
  f5 := ⟨Try.f84.name, by decide, Try.func84.trans (congrArg some (by kernel_rfl))⟩
  f7 := ⟨Try.f99.name, by decide, Try.func99.trans (congrArg some (by kernel_rfl))⟩
  t3 := Try.underlying3
  a3 := Try.isAgg3
  z3 := Try.sizeOf3
  v3 := Try.zeroValue3
  t4 := Try.underlying4
  a4 := Try.isAgg4
  z4 := Try.sizeOf4
  v4 := Try.zeroValue4
  t22 := Try.underlying2
  a22 := Try.isAgg2
  z22 := Try.sizeOf2
  v22 := Try.zeroValue2 }
def impl_sorted.G (w w' : World) : Prop := ∃ q os', w' = Go.Sort.grow (w.drewN q) os'
theorem impl_sorted.G_refl (w : World) : impl_sorted.G w w := ⟨0, #[], by rw [Go.Sort.grow_empty]; rfl⟩
theorem impl_sorted.G_alloc {w w1 : World} (h : impl_sorted.G w w1) (o : Obj) : impl_sorted.G w (w1.alloc o) := by
 obtain ⟨q, os, rfl⟩ := h
 exact ⟨q, os ++ #[o], by rw [Go.Sort.alloc_eq_grow, Go.Sort.grow_grow]⟩
theorem impl_sorted.G_drewN {w w1 : World} (h : impl_sorted.G w w1) (m : Nat) : impl_sorted.G w (w1.drewN m) := by
 obtain ⟨q, os, rfl⟩ := h
 exact ⟨q + m, os, by simp [World.drewN, Go.Sort.grow, Nat.add_assoc]⟩
theorem impl_sorted.G_trans {w w1 w2 : World} (h : impl_sorted.G w w1) (h2 : impl_sorted.G w1 w2) : impl_sorted.G w w2 := by
 obtain ⟨q, os, rfl⟩ := h
 obtain ⟨q2, os2, rfl⟩ := h2
 exact ⟨q + q2, os ++ os2, by simp [World.drewN, Go.Sort.grow, Nat.add_assoc, Array.append_assoc]⟩
theorem impl_sorted.G_below {w w1 : World} (h : impl_sorted.G w w1) : Below w.heap.size w w1 := by
 obtain ⟨q, os, rfl⟩ := h
 exact ⟨rfl, rfl, rfl, by simp [World.drewN, Go.Sort.grow], fun k hk => by simp [World.drewN, Go.Sort.grow, Array.getElem?_append, hk]⟩
theorem impl_sorted.mark (k : Nat) (a0 b0 b1 b2 r : Int) (w : World) (h : impl_mark.f k a0 b0 b1 b2 = some r) :
  Calls Try.prog 80 #[.int .i64 a0, .agg #[.int .i64 b0, .int .i64 b1, .int .i64 b2]] w fun e w' => e = .returned (.int .i64 r) ∧ impl_sorted.G w w' := by
 unfold impl_mark.f at h
 obtain ⟨t, ht, h⟩ := Option.bind_eq_some_iff.mp h
 obtain rfl := Option.some.inj h
 have HT := Aside0.mk ht
 have EX := Aside0.mk (impl_sorted.G_refl w)
 clear ht
 go_enter Try.func80, Try.ntmps80
 go_wp2_with (first | ((refine gd_ 3 ?_); refine Kd.event_run (v := .pointer (some ⟨w.heap.size, 0, none⟩)) (w1 := w.alloc (.cells #[.int .i64 b0, .int .i64 b1, .int .i64 b2] 31 (0, 0))) rfl (by first | (go_simp; done) | (go_simp; rfl)) ?_; have BX := Aside0.mk (blk_new w (.cells #[.int .i64 b0, .int .i64 b1, .int .i64 b2] 31 (0, 0))); replace EX := Aside0.mk (impl_sorted.G_alloc EX.out (.cells #[.int .i64 b0, .int .i64 b1, .int .i64 b2] 31 (0, 0))); generalize w.heap.size = gx at BX ⊢; generalize w.alloc (.cells #[.int .i64 b0, .int .i64 b1, .int .i64 b2] 31 (0, 0)) = wx at BX EX ⊢; have hc0 : wx.cell? ⟨gx, 0, none⟩ = some (.int .i64 b0) := (blk_cell BX.out 0).trans rfl; have hc1 : wx.cell? ⟨gx, 1, none⟩ = some (.int .i64 b1) := (blk_cell BX.out 1).trans rfl; have hc2 : wx.cell? ⟨gx, 2, none⟩ = some (.int .i64 b2) := (blk_cell BX.out 2).trans rfl) | (go_at_call 81; (with_reducible refine (impl_power.calls k a0 (wrap64 (6 - b2)) t _ HT.out).mono ?_); rintro e w' ⟨rfl, ⟨nd, rfl⟩⟩; (try exact dd_)))
 repeat (go_quiet (first | ((refine gd_ 3 ?_); refine Kd.event_run (v := .pointer (some ⟨w.heap.size, 0, none⟩)) (w1 := w.alloc (.cells #[.int .i64 b0, .int .i64 b1, .int .i64 b2] 31 (0, 0))) rfl (by first | (go_simp; done) | (go_simp; rfl)) ?_; have BX := Aside0.mk (blk_new w (.cells #[.int .i64 b0, .int .i64 b1, .int .i64 b2] 31 (0, 0))); replace EX := Aside0.mk (impl_sorted.G_alloc EX.out (.cells #[.int .i64 b0, .int .i64 b1, .int .i64 b2] 31 (0, 0))); generalize w.heap.size = gx at BX ⊢; generalize w.alloc (.cells #[.int .i64 b0, .int .i64 b1, .int .i64 b2] 31 (0, 0)) = wx at BX EX ⊢; have hc0 : wx.cell? ⟨gx, 0, none⟩ = some (.int .i64 b0) := (blk_cell BX.out 0).trans rfl; have hc1 : wx.cell? ⟨gx, 1, none⟩ = some (.int .i64 b1) := (blk_cell BX.out 1).trans rfl; have hc2 : wx.cell? ⟨gx, 2, none⟩ = some (.int .i64 b2) := (blk_cell BX.out 2).trans rfl) | (go_at_call 81; (with_reducible refine (impl_power.calls k a0 (wrap64 (6 - b2)) t _ HT.out).mono ?_); rintro e w' ⟨rfl, ⟨nd, rfl⟩⟩; (try exact dd_))); try go_wp2_with (first | ((refine gd_ 3 ?_); refine Kd.event_run (v := .pointer (some ⟨w.heap.size, 0, none⟩)) (w1 := w.alloc (.cells #[.int .i64 b0, .int .i64 b1, .int .i64 b2] 31 (0, 0))) rfl (by first | (go_simp; done) | (go_simp; rfl)) ?_; have BX := Aside0.mk (blk_new w (.cells #[.int .i64 b0, .int .i64 b1, .int .i64 b2] 31 (0, 0))); replace EX := Aside0.mk (impl_sorted.G_alloc EX.out (.cells #[.int .i64 b0, .int .i64 b1, .int .i64 b2] 31 (0, 0))); generalize w.heap.size = gx at BX ⊢; generalize w.alloc (.cells #[.int .i64 b0, .int .i64 b1, .int .i64 b2] 31 (0, 0)) = wx at BX EX ⊢; have hc0 : wx.cell? ⟨gx, 0, none⟩ = some (.int .i64 b0) := (blk_cell BX.out 0).trans rfl; have hc1 : wx.cell? ⟨gx, 1, none⟩ = some (.int .i64 b1) := (blk_cell BX.out 1).trans rfl; have hc2 : wx.cell? ⟨gx, 2, none⟩ = some (.int .i64 b2) := (blk_cell BX.out 2).trans rfl) | (go_at_call 81; (with_reducible refine (impl_power.calls k a0 (wrap64 (6 - b2)) t _ HT.out).mono ?_); rintro e w' ⟨rfl, ⟨nd, rfl⟩⟩; (try exact dd_))))
 go_ret
 exact ⟨rfl, by first | exact EX.out | exact impl_sorted.G_drewN EX.out _ | exact impl_sorted.G_drewN (impl_sorted.G_drewN EX.out _) _⟩
def impl_sorted.T1 : Bool × List (List Nat × List Nat) := (true, [([], []), ([], []), ([1], [1]), ([0, 2], [0, 2]), ([], []), ([], []), ([5], [5]), ([4, 6, 3], [4, 6]), ([3, 7, 7], [3, 7]), ([8, 8, 0, 1, 2, 3, 4, 5, 6, 7, 8], [8])])
def impl_sorted.B1 : List Nat := [0, 0, 2, 7, 0, 0, 32, 127, 255, 511]
theorem impl_sorted.tab1 : rtab .any (opsOf Try.f83 1) = impl_sorted.T1 := by kernel_rfl
theorem impl_sorted.bits1 : waitsOk impl_sorted.T1.2 impl_sorted.B1 = true := by kernel_rfl
theorem impl_sorted.cmp (k : Nat) (a0 r1 r2 : Int) (x y : S72) (h1 : impl_mark.f k a0 x.f0.f0 x.f0.f1 x.f0.f2 = some r1) (h2 : impl_mark.f k a0 y.f0.f0 y.f0.f1 y.f0.f2 = some r2) (Bp : Nat) (w : World) (hp : w.cell? ⟨Bp, 0, none⟩ = some (.int .i64 a0)) (hb : Bp < w.heap.size) :
  Calls Try.prog 83 #[.agg #[.int .i64 x.f0.f0, .int .i64 x.f0.f1, .int .i64 x.f0.f2, .int .i64 x.f1], .agg #[.int .i64 y.f0.f0, .int .i64 y.f0.f1, .int .i64 y.f0.f2, .int .i64 y.f1], .pointer (some ⟨Bp, 0, none⟩)] w fun e w' => e = .returned (.int .i64 (Lib.compareInt r1 r2)) ∧ impl_sorted.G w w' := by
 have hcmp := fun W => AnyG.cmp_Compare_int cmp84 r1 r2 W
 change ∀ W, Calls Try.prog 84 _ _ _ at hcmp
 generalize Lib.compareInt r1 r2 = rc at hcmp ⊢
 have EX := Aside0.mk (impl_sorted.G_refl w)
 have BL := Aside0.mk hb
 have BP := Aside0.mk hp
 have M1 := Aside0.mk h1
 have M2 := Aside0.mk h2
 clear hb hp h1 h2
 go_enter Try.func83, Try.ntmps83
 go_wp2_with (first | ((refine gd_ 3 ?_); refine Kd.event_run (v := .pointer (some ⟨w.heap.size, 0, none⟩)) (w1 := w.alloc (.cells #[.int .i64 x.f0.f0, .int .i64 x.f0.f1, .int .i64 x.f0.f2, .int .i64 x.f1] 72 (0, 0))) rfl (by first | (go_simp; done) | (go_simp; rfl)) ?_; have BX := Aside0.mk (blk_new w (.cells #[.int .i64 x.f0.f0, .int .i64 x.f0.f1, .int .i64 x.f0.f2, .int .i64 x.f1] 72 (0, 0))); replace EX := Aside0.mk (impl_sorted.G_alloc EX.out (.cells #[.int .i64 x.f0.f0, .int .i64 x.f0.f1, .int .i64 x.f0.f2, .int .i64 x.f1] 72 (0, 0))); replace BP := Aside0.mk (Lib.cell?_alloc_some (.cells #[.int .i64 x.f0.f0, .int .i64 x.f0.f1, .int .i64 x.f0.f2, .int .i64 x.f1] 72 (0, 0)) BP.out); replace BL := Aside0.mk (show Bp < (w.alloc (.cells #[.int .i64 x.f0.f0, .int .i64 x.f0.f1, .int .i64 x.f0.f2, .int .i64 x.f1] 72 (0, 0))).heap.size by have := BL.out; simp; omega); generalize w.heap.size = gx at BX ⊢; generalize w.alloc (.cells #[.int .i64 x.f0.f0, .int .i64 x.f0.f1, .int .i64 x.f0.f2, .int .i64 x.f1] 72 (0, 0)) = wx at BX EX BP BL ⊢) | ((refine gd_ 4 ?_); refine Kd.event_run (v := .pointer (some ⟨wx.heap.size, 0, none⟩)) (w1 := wx.alloc (.cells #[.int .i64 y.f0.f0, .int .i64 y.f0.f1, .int .i64 y.f0.f2, .int .i64 y.f1] 72 (0, 0))) rfl (by first | (go_simp; done) | (go_simp; rfl)) ?_; have BY := Aside0.mk (blk_new wx (.cells #[.int .i64 y.f0.f0, .int .i64 y.f0.f1, .int .i64 y.f0.f2, .int .i64 y.f1] 72 (0, 0))); replace BX := Aside0.mk (blk_alloc BX.out (.cells #[.int .i64 y.f0.f0, .int .i64 y.f0.f1, .int .i64 y.f0.f2, .int .i64 y.f1] 72 (0, 0))); replace EX := Aside0.mk (impl_sorted.G_alloc EX.out (.cells #[.int .i64 y.f0.f0, .int .i64 y.f0.f1, .int .i64 y.f0.f2, .int .i64 y.f1] 72 (0, 0))); replace BP := Aside0.mk (Lib.cell?_alloc_some (.cells #[.int .i64 y.f0.f0, .int .i64 y.f0.f1, .int .i64 y.f0.f2, .int .i64 y.f1] 72 (0, 0)) BP.out); replace BL := Aside0.mk (show Bp < (wx.alloc (.cells #[.int .i64 y.f0.f0, .int .i64 y.f0.f1, .int .i64 y.f0.f2, .int .i64 y.f1] 72 (0, 0))).heap.size by have := BL.out; simp; omega); generalize wx.heap.size = gy at BY ⊢; generalize wx.alloc (.cells #[.int .i64 y.f0.f0, .int .i64 y.f0.f1, .int .i64 y.f0.f2, .int .i64 y.f1] 72 (0, 0)) = wy at BX BY EX BP BL ⊢))
 replace BX := Aside0.mk (blk_drew BX.out)
 replace BY := Aside0.mk (blk_drew BY.out)
 replace EX := Aside0.mk (impl_sorted.G_drewN EX.out 1)
 replace BP := Aside0.mk (show wy.drew.cell? ⟨Bp, 0, none⟩ = some (.int .i64 a0) from BP.out)
 replace BL := Aside0.mk (show Bp < wy.drew.heap.size from BL.out)
 refine start_ (n := 10) (S := fun w' => w'.cell? ⟨gx, 0, none⟩ = some (.int .i64 x.f0.f0) ∧ w'.cell? ⟨gx, 1, none⟩ = some (.int .i64 x.f0.f1) ∧ w'.cell? ⟨gx, 2, none⟩ = some (.int .i64 x.f0.f2) ∧ w'.cell? ⟨gx, 3, none⟩ = some (.int .i64 x.f1) ∧ w'.cell? ⟨gy, 0, none⟩ = some (.int .i64 y.f0.f0) ∧ w'.cell? ⟨gy, 1, none⟩ = some (.int .i64 y.f0.f1) ∧ w'.cell? ⟨gy, 2, none⟩ = some (.int .i64 y.f0.f2) ∧ w'.cell? ⟨gy, 3, none⟩ = some (.int .i64 y.f1) ∧ w'.cell? ⟨Bp, 0, none⟩ = some (.int .i64 a0)) (ds := []) (bv_ 10 0) (by kernel_rfl) rfl rfl ⟨(blk_cell BX.out 0).trans rfl, (blk_cell BX.out 1).trans rfl, (blk_cell BX.out 2).trans rfl, (blk_cell BX.out 3).trans rfl, (blk_cell BY.out 0).trans rfl, (blk_cell BY.out 1).trans rfl, (blk_cell BY.out 2).trans rfl, (blk_cell BY.out 3).trans rfl, BP.out⟩ (fun hHeld => ?_); refine with_tabW impl_sorted.tab1 impl_sorted.bits1 (fun HT_ HW_ => ?_)
 replace EX := Aside0.mk (show impl_sorted.G w wy.drew from EX.out)
 generalize wy.drew = wz at BX BY BP BL EX hHeld ⊢
 refine px_ HT_ 1 7 2 ?_
 refine px_ HT_ 5 11 34 ?_
 refine ta_ HT_ HW_ 0 (some 6) (bv_ 10 35) hHeld ?_ (hy := by rintro w' ⟨s0, s1, s2, s3, s4, s5, s6, s7, s8⟩; go_simp; with_reducible rfl)
 refine ta_ HT_ HW_ 4 (some 10) (bv_ 10 51) hHeld ?_ (hy := by rintro w' ⟨s0, s1, s2, s3, s4, s5, s6, s7, s8⟩; go_simp; with_reducible rfl)
 refine ta_ HT_ HW_ 2 (some 8) (bv_ 10 55) hHeld ?_ (hy := by rintro w' ⟨s0, s1, s2, s3, s4, s5, s6, s7, s8⟩; go_simp; with_reducible rfl)
 refine ta_ HT_ HW_ 6 (some 12) (bv_ 10 119) hHeld ?_ (hy := by rintro w' ⟨s0, s1, s2, s3, s4, s5, s6, s7, s8⟩; go_simp; with_reducible rfl)
 refine on_ HT_ 3 (some 9) (bv_ 10 127) (fun K hK => ?_)
 refine gs_ Try.func80 #[.int .i64 a0, .agg #[.int .i64 x.f0.f0, .int .i64 x.f0.f1, .int .i64 x.f0.f2]] ?_
 refine (impl_sorted.mark k a0 x.f0.f0 x.f0.f1 x.f0.f2 r1 _ M1.out).mono ?_
 rintro e wn ⟨rfl, hg⟩
 refine ⟨_, rfl, ?_⟩
 have hb := impl_sorted.G_below hg
 replace BX := Aside0.mk (blk_below BX.out hb)
 replace BY := Aside0.mk (blk_below BY.out hb)
 replace BP := Aside0.mk ((hb.cell (p := ⟨Bp, 0, none⟩) BL.out).trans BP.out)
 replace BL := Aside0.mk (Nat.lt_of_lt_of_le BL.out hb.size)
 replace EX := Aside0.mk (impl_sorted.G_trans EX.out hg)
 clear hb hg
 refine hK.out _ _ ⟨(blk_cell BX.out 0).trans rfl, (blk_cell BX.out 1).trans rfl, (blk_cell BX.out 2).trans rfl, (blk_cell BX.out 3).trans rfl, (blk_cell BY.out 0).trans rfl, (blk_cell BY.out 1).trans rfl, (blk_cell BY.out 2).trans rfl, (blk_cell BY.out 3).trans rfl, BP.out⟩ (fun hHeld => ?_)
 clear hK K
 refine nm_ (some 9) ?_
 refine on_ HT_ 7 (some 13) (bv_ 10 255) (fun K hK => ?_)
 refine gs_ Try.func80 #[.int .i64 a0, .agg #[.int .i64 y.f0.f0, .int .i64 y.f0.f1, .int .i64 y.f0.f2]] ?_
 refine (impl_sorted.mark k a0 y.f0.f0 y.f0.f1 y.f0.f2 r2 _ M2.out).mono ?_
 rintro e wn ⟨rfl, hg⟩
 refine ⟨_, rfl, ?_⟩
 have hb := impl_sorted.G_below hg
 replace BX := Aside0.mk (blk_below BX.out hb)
 replace BY := Aside0.mk (blk_below BY.out hb)
 replace BP := Aside0.mk ((hb.cell (p := ⟨Bp, 0, none⟩) BL.out).trans BP.out)
 replace BL := Aside0.mk (Nat.lt_of_lt_of_le BL.out hb.size)
 replace EX := Aside0.mk (impl_sorted.G_trans EX.out hg)
 clear hb hg
 refine hK.out _ _ ⟨(blk_cell BX.out 0).trans rfl, (blk_cell BX.out 1).trans rfl, (blk_cell BX.out 2).trans rfl, (blk_cell BX.out 3).trans rfl, (blk_cell BY.out 0).trans rfl, (blk_cell BY.out 1).trans rfl, (blk_cell BY.out 2).trans rfl, (blk_cell BY.out 3).trans rfl, BP.out⟩ (fun hHeld => ?_)
 clear hK K
 refine nm_ (some 13) ?_
 refine on_ HT_ 8 (some 14) (bv_ 10 511) (fun K hK => ?_)
 refine gs_ Try.func84 #[.int .i64 r1, .int .i64 r2] ?_
 refine (hcmp _).mono ?_
 rintro e wn ⟨rfl, rfl⟩
 refine ⟨_, rfl, ?_⟩
 refine hK.out _ _ ⟨(blk_cell BX.out 0).trans rfl, (blk_cell BX.out 1).trans rfl, (blk_cell BX.out 2).trans rfl, (blk_cell BX.out 3).trans rfl, (blk_cell BY.out 0).trans rfl, (blk_cell BY.out 1).trans rfl, (blk_cell BY.out 2).trans rfl, (blk_cell BY.out 3).trans rfl, BP.out⟩ (fun hHeld => ?_)
 clear hK K
 refine nm_ (some 14) ?_
 refine px_ HT_ 9 5 1023 ?_
 refine done_ (done_of HT_.out (by kernel_rfl)) ?_
 try go_wp2
 go_ret
 exact ⟨rfl, EX.out⟩
def impl_sorted.enc (x : S72) : List Value := [.int .i64 x.f0.f0, .int .i64 x.f0.f1, .int .i64 x.f0.f2, .int .i64 x.f1]
def impl_sorted.key (k : Nat) (a0 : Int) (x : S72) : Int := (impl_mark.f k a0 x.f0.f0 x.f0.f1 x.f0.f2).getD 0
def impl_sorted.f (k : Nat) (a0 a1_0 a1_1 a1_2 : Int) (l2 : List (S72)) : Option (Int × Int × Int × (List (S72))) :=
 if (0 < l2.length ∧ l2.length < 4611686018427387904) ∧ (l2.all fun x => (impl_mark.f k a0 x.f0.f0 x.f0.f1 x.f0.f2).isSome) = true ∧ (l2.map (impl_sorted.key k a0)).Nodup then some (a1_0, a1_1, a1_2, l2.mergeSort fun x y => decide (impl_sorted.key k a0 x ≤ impl_sorted.key k a0 y)) else none
theorem impl_sorted.inj (f : S72 → Int) (l : List S72) (h : (l.map f).Nodup) : ∀ x ∈ l, ∀ y ∈ l, f x = f y → x = y := by
 induction l with
 | nil => intro x hx; cases hx
 | cons a l ih =>
  rw [List.map_cons, List.nodup_cons] at h
  intro x hx y hy e
  rcases List.mem_cons.1 hx with hx1 | hx1 <;> rcases List.mem_cons.1 hy with hy1 | hy1
  ·rw [hx1, hy1]
  ·exact absurd (List.mem_map.2 ⟨y, hy1, by rw [← e, hx1]⟩) h.1
  ·exact absurd (List.mem_map.2 ⟨x, hx1, by rw [e, hy1]⟩) h.1
  exact ih h.2 x hx1 y hy1 e
theorem impl_sorted.lt (a b : Int) : decide (Lib.compareInt a b < 0) = decide (a < b) := by
 unfold Lib.compareInt
 by_cases h1 : a < b
 ·simp [h1]
 by_cases h2 : b < a <;> simp [h1, h2]
theorem impl_sorted.flat {α : Type} [Inhabited α] (f : α → S72) (d : Array α) (j : Nat) (hj : j < d.size) : (((Go.Sort.flatK (fun x => impl_sorted.enc (f x)) 4 d).toList.drop (j * 4)).take 4) = impl_sorted.enc (f d[j]!) := by
 have hs := Go.Sort.size_flatK (fun x => impl_sorted.enc (f x)) 4 d
 have hlen : (impl_sorted.enc (f d[j]!)).length = 4 := rfl
 apply List.ext_getElem?
 intro i
 rw [List.getElem?_take]
 by_cases hi : i < 4
 ·rw [if_pos hi, List.getElem?_drop, Array.getElem?_toList, Array.getElem?_eq_getElem (by omega), ← getElem!_pos (Go.Sort.flatK (fun x => impl_sorted.enc (f x)) 4 d) (j * 4 + i) (by omega), Go.Sort.get_flatK _ _ _ _ (by omega), show (j * 4 + i) / 4 = j by omega, show (j * 4 + i) % 4 = i by omega, List.getElem?_eq_getElem (by rw [hlen]; exact hi), getElem!_pos _ i (by show i < (impl_sorted.enc (f d[j]!)).length; rw [hlen]; exact hi)]
 rw [if_neg hi, List.getElem?_eq_none (by rw [hlen]; omega)]
theorem impl_sorted.scan (k : Nat) (a0 : Int) (g cap : Nat) (l2 : List S72) (Bp : Nat) (w : World) (base : Nat) (ok : Nat → Prop) (hR : Kd.R k72 72 w base ok (.slice (some ⟨g, 0, none⟩) l2.length cap) l2) (hl : 0 < l2.length)
  (hall : ∀ x ∈ l2, (impl_mark.f k a0 x.f0.f0 x.f0.f1 x.f0.f2).isSome = true) (hnd : (l2.map (impl_sorted.key k a0)).Nodup) (hp : w.cell? ⟨Bp, 0, none⟩ = some (.int .i64 a0)) (hbp : Bp < w.heap.size) (hne : Bp ≠ g) (hsz : l2.length < 4611686018427387904) :
  Calls Try.prog 82 #[.slice (some ⟨g, 0, none⟩) l2.length cap, .func (.func 83) #[] #[.pointer (some ⟨Bp, 0, none⟩)]] w fun e w' => e = .returned (.tuple #[]) ∧ Kd.R k72 72 w' base ok (.slice (some ⟨g, 0, none⟩) l2.length cap) (l2.mergeSort fun x y => decide (impl_sorted.key k a0 x ≤ impl_sorted.key k a0 y)) ∧ w.grownBy w' (some g) := by
 obtain ⟨hok, inner, ⟨hil, hh⟩, hrep⟩ := hR
 have hsz4 : k72.sz = 4 := rfl
 rcases hh with ⟨e0, _⟩ | ⟨g', cap', cur, e0, hb, hg, hn, hm, hs, ht⟩
 ·cases e0
 injection e0 with e1 _ e3
 injection e1 with e1
 injection e1 with e1
 subst e1; subst e3
 rw [hsz4] at hil hs ht
 have hgl : g < w.heap.size := (Array.getElem?_eq_some_iff.1 hg).1
 haveI : Inhabited { x : S72 // x ∈ l2 } := ⟨⟨l2[0], List.getElem_mem hl⟩⟩
 obtain ⟨d, hd0⟩ : ∃ d : Array { x : S72 // x ∈ l2 }, d = l2.attach.toArray := ⟨_, rfl⟩
 have hd : d.size = l2.length := by rw [hd0]; simp
 have hdg : ∀ j, (hj : j < l2.length) → (d[j]!).1 = l2[j] := fun j hj => by
  rw [getElem!_pos d j (by omega)]
  simp [hd0]
 have hcell : ∀ j, (hj : j < l2.length) → ((inner.drop (j * 4)).take 4) = impl_sorted.enc l2[j] := fun j hj => by
  have h1 := k72.K_of_M (hrep.2 j l2[j] (List.getElem?_eq_getElem hj))
  rw [hsz4] at h1
  exact k72_open h1
 have hH : Go.Sort.HoldsK (fun x : { x : S72 // x ∈ l2 } => impl_sorted.enc x.1) 4 w g 0 d := by
  intro j hj
  rw [Go.Sort.size_flatK, hd] at hj
  have hj4 : j / 4 < l2.length := by omega
  have hjc : j < cur.size := by rw [hs]; omega
  refine ⟨?_, by simp [World.frozen?, hg]⟩
  rw [Nat.zero_add]
  unfold World.cell?
  simp only [hg, Option.isSome_none, Bool.false_eq_true, if_false]
  have h1 : inner[j]? = cur[j]? := by
   rw [← ht, List.getElem?_take, if_pos (by omega), Array.getElem?_toList]
  have h2 := congrArg (fun z => z[j % 4]?) (hcell (j / 4) hj4)
  simp only [List.getElem?_take, List.getElem?_drop, if_pos (Nat.mod_lt j (show 0 < 4 by omega))] at h2
  rw [show j / 4 * 4 + j % 4 = j by omega] at h2
  rw [← h1, h2, id, Go.Sort.get_flatK _ _ _ _ (by rw [hd]; exact hj), hdg _ hj4, List.getElem?_eq_getElem (show j % 4 < (impl_sorted.enc l2[j / 4]).length from Nat.mod_lt j (by decide)), getElem!_pos _ (j % 4) (show j % 4 < (impl_sorted.enc l2[j / 4]).length from Nat.mod_lt j (by decide))]
 have hcon := AnyQ.slices_SortFunc_total (P := Try.prog) sort82 4 Try.isAgg72 Try.sizeOf72 (fun x : { x : S72 // x ∈ l2 } => impl_sorted.enc x.1) (fun _ => rfl)
  (fun x v hv => by simp only [impl_sorted.enc, List.mem_cons, List.not_mem_nil, or_false] at hv; rcases hv with rfl | rfl | rfl | rfl <;> rfl)
  (fun x y => Lib.compareInt (impl_sorted.key k a0 x.1) (impl_sorted.key k a0 y.1))
  ⟨fun x => by show decide (_ < 0) = false; rw [impl_sorted.lt]; simp, fun x y z h1 h2 => by
   have a1 : decide (Lib.compareInt _ _ < 0) = true := h1
   have a2 : decide (Lib.compareInt _ _ < 0) = true := h2
   show decide (_ < 0) = true
   rw [impl_sorted.lt] at *
   simp only [decide_eq_true_eq] at *
   omega, fun x y z h1 h2 => by
   have a1 : decide (Lib.compareInt _ _ < 0) = false := h1
   have a2 : decide (Lib.compareInt _ _ < 0) = false := h2
   show decide (_ < 0) = false
   rw [impl_sorted.lt] at *
   simp only [decide_eq_false_iff_not] at *
   omega⟩ 83 #[.pointer (some ⟨Bp, 0, none⟩)] g 0 cap d w (enters_of Try.func83 (by kernel_rfl) rfl) ?hcmp hH hgl (by omega) ?hT
 case hcmp =>
  intro m os dk hdk x y
  obtain ⟨r1, h1⟩ := Option.isSome_iff_exists.1 (hall x.1 x.2)
  obtain ⟨r2, h2⟩ := Option.isSome_iff_exists.1 (hall y.1 y.2)
  have e1 : impl_sorted.key k a0 x.1 = r1 := by unfold impl_sorted.key; rw [h1]; rfl
  have e2 : impl_sorted.key k a0 y.1 = r2 := by unfold impl_sorted.key; rw [h2]; rfl
  have e : ∀ u v z : Value, (#[u, v] ++ #[z] : Array Value) = #[u, v, z] := fun _ _ _ => by simp
  have hc := impl_sorted.cmp k a0 r1 r2 x.1 y.1 h1 h2 Bp (sortWorldK (fun x : { x : S72 // x ∈ l2 } => impl_sorted.enc x.1) 4 w g 0 m dk os)
   (by
    unfold sortWorldK
    rw [Go.Sort.cell?_grow _ _ _ (by show Bp < _; unfold Go.Sort.putRowK; rw [Go.Sort.size_putRow]; exact hbp), Go.Sort.cell?_putRowK_other _ _ _ _ _ _ _ hne]
    exact hp)
   (by
    unfold sortWorldK Go.Sort.putRowK
    rw [Go.Sort.size_grow, Go.Sort.size_putRow]
    exact Nat.lt_of_lt_of_le hbp (Nat.le_add_right _ _))
  rw [← e1, ← e2, ← e] at hc
  exact hc
 case hT =>
  intro x y h1 h2
  have a1 : decide (Lib.compareInt _ _ < 0) = false := h1
  have a2 : decide (Lib.compareInt _ _ < 0) = false := h2
  rw [impl_sorted.lt] at a1 a2
  simp only [decide_eq_false_iff_not] at a1 a2
  exact Subtype.ext (impl_sorted.inj _ l2 hnd _ x.2 _ y.2 (by omega))
 change Calls Try.prog 82 _ _ _ at hcon
 rw [hd] at hcon
 refine hcon.mono ?_
 rintro e w' ⟨rfl, n, os, rfl⟩
 have hms : (d.toList.mergeSort fun x y => !(ltOf fun x y : { x : S72 // x ∈ l2 } => Lib.compareInt (impl_sorted.key k a0 x.1) (impl_sorted.key k a0 y.1)) y x).map Subtype.val = l2.mergeSort fun x y => decide (impl_sorted.key k a0 x ≤ impl_sorted.key k a0 y) := by
  rw [List.map_mergeSort (s := fun x y => decide (impl_sorted.key k a0 x ≤ impl_sorted.key k a0 y)), hd0]
  ·simp
  intro a _ b _
  show (!decide (Lib.compareInt _ _ < 0)) = _
  rw [impl_sorted.lt, ← decide_not]
  simp
 generalize (d.toList.mergeSort fun x y => !(ltOf fun x y : { x : S72 // x ∈ l2 } => Lib.compareInt (impl_sorted.key k a0 x.1) (impl_sorted.key k a0 y.1)) y x) = dl at hms ⊢
 have hdl : dl.length = l2.length := by have := congrArg List.length hms; simpa using this
 rw [← hms]
 have hga : w.grownBy (sortWorldK (fun x : { x : S72 // x ∈ l2 } => impl_sorted.enc x.1) 4 w g 0 n dl.toArray os) (some g) := by
  refine ⟨rfl, rfl, rfl, by unfold sortWorldK Go.Sort.putRowK; rw [Go.Sort.size_grow, Go.Sort.size_putRow]; exact Nat.le_add_right _ _, fun i hi hni => ?_⟩
  unfold sortWorldK Go.Sort.putRowK
  rw [Go.Sort.heap_grow_old _ _ (by rw [Go.Sort.size_putRow]; exact hi)]
  have : g ≠ i := fun e => hni (by rw [e])
  simp [Go.Sort.putRow, Go.Sort.mapBlock, Go.Sort.ahead, Array.getElem?_modify, this]
 refine ⟨rfl, ⟨hok, (Go.Sort.flatK (fun x : { x : S72 // x ∈ l2 } => impl_sorted.enc x.1) 4 dl.toArray).toList, ?_, ?_⟩, hga⟩
 ·rw [hsz4]
  refine ⟨by rw [Array.length_toList, Go.Sort.size_flatK]; simp, .inr ⟨g, cap, Go.Sort.putCells id 0 (Go.Sort.flatK (fun x : { x : S72 // x ∈ l2 } => impl_sorted.enc x.1) 4 dl.toArray) cur, by simp [hdl], hb, ?_, by simpa [hdl] using hn, hm, by simpa [Go.Sort.putCells] using hs, ?_⟩⟩
  ·unfold sortWorldK Go.Sort.putRowK
   rw [Go.Sort.heap_grow_old _ _ (by rw [Go.Sort.size_putRow]; exact hgl)]
   simp [Go.Sort.putRow, Go.Sort.mapBlock, Go.Sort.ahead, Array.getElem?_modify, hg, Go.Sort.onCells]
  apply List.ext_getElem?
  intro j
  have hfs : (Go.Sort.flatK (fun x : { x : S72 // x ∈ l2 } => impl_sorted.enc x.1) 4 dl.toArray).size = l2.length * 4 := by rw [Go.Sort.size_flatK]; simp [hdl]
  rw [List.getElem?_take, Array.getElem?_toList, Array.getElem?_toList, List.length_map, hdl]
  by_cases hj : j < l2.length * 4
  ·have hjc : j < cur.size := by rw [hs]; omega
   rw [if_pos hj]
   simp only [Go.Sort.putCells, Array.getElem?_mapIdx, Array.getElem?_eq_getElem hjc, Option.map_some]
   rw [if_pos ⟨Nat.zero_le _, by rw [hfs]; omega⟩, Array.getElem?_eq_getElem (by rw [hfs]; exact hj), Nat.sub_zero, getElem!_pos _ j (by rw [hfs]; exact hj)]
   rfl
  rw [if_neg hj, Array.getElem?_eq_none (by rw [hfs]; omega)]
 refine ⟨by rw [Array.length_toList, Go.Sort.size_flatK, hsz4]; simp, fun j p hj => ?_⟩
 rw [hsz4]
 have hjl : j < dl.length := by
  have := (List.getElem?_eq_some_iff.1 hj).1
  simpa using this
 have h1 := impl_sorted.flat (fun x : { x : S72 // x ∈ l2 } => x.1) dl.toArray j (by simpa using hjl)
 rw [h1]
 have h2 : (dl.toArray[j]!).1 = p := by
  rw [getElem!_pos dl.toArray j (by simpa using hjl)]
  rw [List.getElem?_map, List.getElem?_eq_getElem hjl] at hj
  simpa using hj
 rw [h2]
 exact k72_mkM _ _ _ p
theorem impl_sorted.calls (k : Nat) (a0 a1_0 a1_1 a1_2 : Int) (P2_ : Nat → Prop) (u9000_ : Value) (l2 : List (S72)) (r1 r2 r3 : Int) (r4 : List (S72)) (w0 w : World) (hB : Below w0.heap.size w0 w) (ho2 : Kd.R k72 72 w w0.heap.size P2_ u9000_ l2) (h : impl_sorted.f k a0 a1_0 a1_1 a1_2 l2 = some (r1, r2, r3, r4)) :
  Calls Try.prog 52 #[.int .i64 a0, .agg #[.int .i64 a1_0, .int .i64 a1_1, .int .i64 a1_2], u9000_] w fun e w' => ∃ v3_ : Value, e = .returned (.agg #[.int .i64 r1, .int .i64 r2, .int .i64 r3, v3_]) ∧ Kd.R k72 72 w' w0.heap.size (fun k_ => (P2_ k_ ∨ w.heap.size ≤ k_)) v3_ r4 ∧ Below w0.heap.size w0 w' ∧ Kept w w' (fun k_ => P2_ k_) := by
 unfold impl_sorted.f at h
 have hl : (0 < l2.length ∧ l2.length < 4611686018427387904) ∧ (l2.all fun x => (impl_mark.f k a0 x.f0.f0 x.f0.f1 x.f0.f2).isSome) = true ∧ (l2.map (impl_sorted.key k a0)).Nodup := Classical.byContradiction fun hn => by rw [if_neg hn] at h; cases h
 rw [if_pos hl] at h
 simp only [Option.some.injEq, Prod.mk.injEq] at h
 obtain ⟨e1, e2, e3, e4⟩ := h
 subst e1; subst e2; subst e3
 obtain ⟨⟨hl0, hsz⟩, hall, hnd⟩ := hl
 rw [List.all_eq_true] at hall
 obtain ⟨g, cap, rfl, hbase, hgl, cells, hcells⟩ := Kd.R_form ho2 hl0
 have hP : P2_ g := ho2.1 g rfl
 have hcon := fun Bp w3 hR hp hbp hne => impl_sorted.scan k a0 g cap l2 Bp w3 w0.heap.size P2_ hR hl0 hall hnd hp hbp hne hsz
 rw [e4] at hcon
 clear e4 hall hnd
 have HU := Aside0.mk hcon
 have HR := Aside0.mk ho2
 have HB := Aside0.mk (Below.refl w.heap.size w)
 have HG := Aside0.mk hcells
 have HL := Aside0.mk hgl
 have H0 := Aside0.mk hB
 have HQ := Aside0.mk hbase
 clear hcon ho2 hB hcells hgl hsz hbase
 go_enter Try.func52, Try.ntmps52
 go_wp2_with (first
  | ((refine gd_ 3 ?_); refine box_event ?hg (N := 3) ?hd (cs := #[.int .i64 a0]) (t := 2) ?hr ?_; (case hd => rfl); (case hg => rfl); (case hr => first | (go_simp; done) | (go_simp; rfl)); intro gp hgp w1 hx1 hb1; have XP := Aside0.mk hx1; have NP := Aside0.mk (show g ≠ gp by rw [hgp]; exact Nat.ne_of_lt HL.out); replace HB := Aside0.mk (below_step HB.out hb1); clear hx1 hb1 hgp)
  | ((refine gd_ 4 ?_); refine box_event ?hg (N := 4) ?hd (cs := #[.int .i64 a1_0, .int .i64 a1_1, .int .i64 a1_2]) (t := 31) ?hr ?_; (case hd => rfl); (case hg => rfl); (case hr => first | (go_simp; done) | (go_simp; rfl)); intro gr hgr w2 hx2 hb2; have XR := Aside0.mk hx2; have NR := Aside0.mk (show g ≠ gr by rw [hgr]; exact Nat.ne_of_lt (Nat.lt_of_lt_of_le HL.out HB.out.size)); replace XP := Aside0.mk (blk_below XP.out hb2); replace HB := Aside0.mk (below_step HB.out hb2); clear hx2 hb2 hgr)
  | ((refine gd_ 6 ?_); refine box_event ?hg (N := 6) ?hd (cs := #[.int .i64 0, .int .i64 0, .int .i64 0, .slice none 0 0]) (t := 34) ?hr ?_; (case hd => rfl); (case hg => rfl); (case hr => first | (go_simp; done) | (go_simp; rfl)); intro gm hgm w3 hx3 hb3; have XM := Aside0.mk hx3; have NM := Aside0.mk (show g ≠ gm by rw [hgm]; exact Nat.ne_of_lt (Nat.lt_of_lt_of_le HL.out HB.out.size)); have GW := Aside0.mk (show w.heap.size ≤ gm by rw [hgm]; exact HB.out.size); have NRM := Aside0.mk (show gr ≠ gm by rw [hgm]; exact Nat.ne_of_lt (blk_lt XR.out)); replace XP := Aside0.mk (blk_below XP.out hb3); replace XR := Aside0.mk (blk_below XR.out hb3); replace HB := Aside0.mk (below_step HB.out hb3); clear hx3 hb3 hgm)
  | ((refine gc_ 82 ?_); refine goesL_ (some 9) rfl rfl Try.func82 (by kernel_rfl) rfl #[.slice (some ⟨g, 0, none⟩) l2.length cap, .func (.func 83) #[] #[.pointer (some ⟨gp, 0, none⟩)]] rfl (by (try simp only [List.map_toArray, List.map_cons, List.map_nil]); first | done | rfl) ?_; refine (HU.out gp w3 (Kd.R_below HR.out HB.out) ((blk_cell XP.out 0).trans rfl) (blk_lt XP.out) (fun e => NP.out e.symm)).mono ?_; rintro e w4 ⟨rfl, hR4, hg4⟩; refine ⟨_, rfl, ?_⟩; have HR4 := Aside0.mk hR4; have HG4 := Aside0.mk hg4; have XR4 := Aside0.mk (blk_grown XR.out hg4 (fun e => NR.out (Option.some.inj e).symm)); have XM4 := Aside0.mk (blk_grown XM.out hg4 (fun e => NM.out (Option.some.inj e).symm)); clear hR4 hg4; have hc0 : w4.cell? ⟨gr, 0, none⟩ = some (.int .i64 a1_0) := (blk_cell XR4.out 0).trans rfl; have hc1 : w4.cell? ⟨gr, 1, none⟩ = some (.int .i64 a1_1) := (blk_cell XR4.out 1).trans rfl; have hc2 : w4.cell? ⟨gr, 2, none⟩ = some (.int .i64 a1_2) := (blk_cell XR4.out 2).trans rfl; have hm0 : w4.cell? ⟨gm, 0, none⟩ = some (.int .i64 0) := (blk_cell XM4.out 0).trans rfl; have hm1 : w4.cell? ⟨gm, 1, none⟩ = some (.int .i64 0) := (blk_cell XM4.out 1).trans rfl; have hm2 : w4.cell? ⟨gm, 2, none⟩ = some (.int .i64 0) := (blk_cell XM4.out 2).trans rfl; have hm3 : w4.cell? ⟨gm, 3, none⟩ = some (.slice none 0 0) := (blk_cell XM4.out 3).trans rfl; have hf0 := blk_frozen XM4.out 0; have hf1 := blk_frozen XM4.out 1; have hf2 := blk_frozen XM4.out 2; have hf3 := blk_frozen XM4.out 3; have hnrm := NRM.out))
 refine bodyPost_ret (results_cell_row rfl _ _ gm 34 #[.int .i64 a1_0, .int .i64 a1_1, .int .i64 a1_2, .slice (some ⟨g, 0, none⟩) l2.length cap] (0, 0) _ rfl (by refine blk_put (cs := #[.int .i64 a1_0, .int .i64 a1_1, .int .i64 a1_2, .slice none 0 0]) ?_ 3 _ rfl; refine blk_put (cs := #[.int .i64 a1_0, .int .i64 a1_1, .int .i64 0, .slice none 0 0]) ?_ 2 _ rfl; refine blk_put (cs := #[.int .i64 a1_0, .int .i64 0, .int .i64 0, .slice none 0 0]) ?_ 1 _ rfl; refine blk_put (cs := #[.int .i64 0, .int .i64 0, .int .i64 0, .slice none 0 0]) ?_ 0 _ rfl; exact XM4.out) Try.underlying34 rfl (by kernel_rfl)) rfl ?_
 have GM : w0.heap.size ≤ gm := Nat.le_trans H0.out.size GW.out
 refine ⟨_, rfl, Kd.R_mono (Kd.R_far (p := ⟨gm, 3, none⟩) (Kd.R_far (p := ⟨gm, 2, none⟩) (Kd.R_far (p := ⟨gm, 1, none⟩) (Kd.R_far (p := ⟨gm, 0, none⟩) (Kd.R_types HR4.out XM4.out (by decide)) (fun _ hk => hk.2) (.int .i64 a1_0)) (fun _ hk => hk.2) (.int .i64 a1_1)) (fun _ hk => hk.2) (.int .i64 a1_2)) (fun _ hk => hk.2) (.slice (some ⟨g, 0, none⟩) l2.length cap)) (fun _ hk => .inl hk.1), ?_, ?_⟩
 ·have hb4 : Below w0.heap.size w0 w4 := (H0.out.trans (HB.out.mono H0.out.size)).grown HG4.out (Nat.le_trans H0.out.size HB.out.size) (fun k_ hk => by rw [← Option.some.inj hk]; exact HQ.out)
  exact below_set (below_set (below_set (below_set hb4 GM) GM) GM) GM
 have hk4 : Kept w w4 (fun k_ => P2_ k_) := Kept.of_grown HG4.out (Kept.of_below HB.out _) (fun k_ hk => by rw [← Option.some.inj hk]; exact .inl hP)
 exact Kept.setCell (Kept.setCell (Kept.setCell (Kept.setCell hk4 (.inr GW.out) _) (.inr GW.out) _) (.inr GW.out) _) (.inr GW.out) _
/-! ### impl_mod: function 102 -/
def impl_mod.f (a0 a1 : Int) : Option (Int) := if a1 = 0 then (none) else (some (Int.tmod (wrap64 ((Int.tmod a0 a1) + a1)) a1))
theorem impl_mod.calls (a0 a1 r : Int) (w : World) (h : impl_mod.f a0 a1 = some r) :
  Calls Try.prog 102 #[.int .i64 a0, .int .i64 a1] w fun e w' => e = .returned (.int .i64 r) ∧ Drawn0 w w' := by
 unfold impl_mod.f at h
 have H := h
 clear h
 replace H := ief_ H
 obtain ⟨c3, c3b0, c3b1, H⟩ := H
 obtain rfl := si_ H
 go_enter Try.func102, Try.ntmps102
 go_wp2
 go_ret
 exact ⟨en_, de_⟩
/-! ### impl_valuation: function 103 -/
def impl_valuation.l0 : Nat → Int → Int → Int → Option (Int)
 | 0, _, _, _ => none
 | k + 1, x0, x1, x5 => if x0 = 0 then (none) else (if (Int.tmod x1 x0) = 0 then (impl_valuation.l0 k x0 (wrap64 (Int.tdiv x1 x0)) (wrap64 (x5 + 1))) else (some x5))
def impl_valuation.f (k : Nat) (a0 a1 : Int) : Option (Int) := if a1 = 0 then (some 1000) else (impl_valuation.l0 k a0 a1 0)
theorem impl_valuation.calls (k : Nat) (a0 a1 r : Int) (w : World) (h : impl_valuation.f k a0 a1 = some r) :
  Calls Try.prog 103 #[.int .i64 a0, .int .i64 a1] w fun e w' => e = .returned (.int .i64 r) ∧ Drawn0 w w' := by
 unfold impl_valuation.f at h
 have H := h
 clear h
 replace H := ie_ H
 rcases H with ⟨c3b0, c3b1, H⟩ | ⟨c3, c3b0, c3b1, H⟩
 ·obtain rfl := si_ H
  go_enter Try.func103, Try.ntmps103
  go_wp2
  go_ret
  exact ⟨en_, de_⟩
 have H' := Aside0.mk H
 clear H
 go_enter Try.func103, Try.ntmps103
 go_wp2
 go_loopg [1, 5] k (fun kq v1 v5 w' => ∃ (x1_1 : Int) (x5_1 : Int), v1 = .int .i64 x1_1 ∧ v5 = .int .i64 x5_1 ∧ Aside0 (impl_valuation.l0 kq a0 x1_1 x5_1 = some r) ∧ Aside0 (kq ≤ k) ∧ Drawn0 w w')
 case atStart => exact ⟨(a1), (0), en_, en_, H', ⟨Nat.le_refl _⟩, de_⟩
 clear H'
 try clear c3
 try clear c3b0
 try clear c3b1
 obtain ⟨x1_1, x5_1, rfl, rfl, HA, HK1, ⟨m1, rfl⟩⟩ := hrel
 cases gk with
 | zero => exact absurd HA.out (by simp [impl_valuation.l0])
 | succ k1 =>
  have H := HA.out
  clear HA
  simp only [impl_valuation.l0] at H
  replace H := ief_ H
  obtain ⟨c4, c4b0, c4b1, H⟩ := H
  replace H := ie_ H
  rcases H with ⟨c5b0, c5b1, H⟩ | ⟨c5, c5b0, c5b1, H⟩
  ·have H' := Aside0.mk H
   clear H
   go_wp2
   go_roundg k1
   case measure => have := HK1.out; omega
   case rel => exact ⟨(wrap64 (Int.tdiv x1_1 a0)), (wrap64 (x5_1 + 1)), en_, en_, H', ⟨by have := HK1.out; omega⟩, de_⟩
  obtain rfl := si_ H
  go_wp2
  go_ret
  exact ⟨en_, de_⟩
end Go.Proofs.Ytdfcoebadjhjlaa.QH
