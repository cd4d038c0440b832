import Derived.Test.YtdfcoebadjhjlaaQHx7
import Derived.Test.YtdfcoebadjhjlaaQHx22
import Derived.Test.YtdfcoebadjhjlaaQHx30
import Derived.Test.YtdfcoebadjhjlaaQHx33
import Derived.Test.YtdfcoebadjhjlaaQHx35
namespace Go.Proofs.Ytdfcoebadjhjlaa.QH
open Go.RowKit Go.Proofs.YtdfcoebadjhjlaaW.PrintWords Go.Proofs.YtdfcoebadjhjlaaW.PrintLast Go.Proofs.YtdfcoebadjhjlaaW.PrintMore
attribute [local go_sem] isSome_setCell max2_int min2_int max_two min_two max_three min_three max_four min_four
set_option linter.unusedVariables false
set_option linter.unusedSimpArgs false

attribute [local go_sem high] eqA31
/-! ### spec_RefineAt: function 20 -/
mutual
def spec_RefineAt.j0 : Nat → Int → List Int → Int → Bool → Int → Int → Int → List (S72) → Int → Int → Int → Option (Int × Int × Int × (List (S72)) × Int)
 | 0, _, _, _, _, _, _, _, _, _, _, _ => none
 | k + 1, x0, x3, x10, x33, x310000, x310001, x310002, x310003, x311000, x311001, x311002 => if x33 = true then (spec_RefineAt.j1 k x0 x3 2 x310000 x310001 x310002 x310003 x311000 x311001 x311002) else (spec_RefineAt.j1 k x0 x3 x10 x310000 x310001 x310002 x310003 x311000 x311001 x311002)
def spec_RefineAt.j1 : Nat → Int → List Int → Int → Int → Int → Int → List (S72) → Int → Int → Int → Option (Int × Int × Int × (List (S72)) × Int)
 | 0, _, _, _, _, _, _, _, _, _, _ => none
 | k + 1, x0, x3, x10, x310000, x310001, x310002, x310003, x311000, x311001, x311002 => spec_RefineAt.l0 k x0 x3 x10 0 0 x310000 x310001 x310002 x310003 x311000 x311001 x311002
def spec_RefineAt.l0 : Nat → Int → List Int → Int → Int → Int → Int → Int → Int → List (S72) → Int → Int → Int → Option (Int × Int × Int × (List (S72)) × Int)
 | 0, _, _, _, _, _, _, _, _, _, _, _, _ => none
 | k + 1, x0, x3, x10, x11, x12, x310000, x310001, x310002, x310003, x311000, x311001, x311002 => if x12 < (x3.length : Int) then (spec_RefineAt.j3 k x0 x3 x10 x11 x12 (x10 == 0) x310000 x310001 x310002 x310003 x311000 x311001 x311002) else (spec_RefineAt.j3 k x0 x3 x10 x11 x12 false x310000 x310001 x310002 x310003 x311000 x311001 x311002)
def spec_RefineAt.j3 : Nat → Int → List Int → Int → Int → Int → Bool → Int → Int → Int → List (S72) → Int → Int → Int → Option (Int × Int × Int × (List (S72)) × Int)
 | 0, _, _, _, _, _, _, _, _, _, _, _, _, _ => none
 | k + 1, x0, x3, x10, x11, x12, x41, x310000, x310001, x310002, x310003, x311000, x311001, x311002 => if x41 = true then (if 0 ≤ x12 then (if x12 < (x3.length : Int) then ((spec_l01In.f (rd x3 x12) (-1000000) 1000000).bind fun t314 => (if t314 = true then (spec_RefineAt.l0 k x0 x3 x10 (wrap64 (x11 + (rd x3 x12))) (wrap64 (x12 + 1)) x310000 x310001 x310002 x310003 x311000 x311001 x311002) else (spec_RefineAt.l0 k x0 x3 2 (wrap64 (x11 + (rd x3 x12))) (wrap64 (x12 + 1)) x310000 x310001 x310002 x310003 x311000 x311001 x311002))) else (none)) else (none)) else (if x10 = 0 then ((spec_l08Within.f k x0 x310000 x310001 x310002 x310003 x311000 x311001 x311002).bind fun bt317 => (if bt317.2 = true then ((spec_l08Weight.f k x0 x310000 x310001 x310002 x310003 x311000 x311001 x311002).bind fun t319 => (spec_RefineAt.j4 k x0 x3 (x11 != t319) x310000 x310001 x310002 x310003 x311000 x311001 x311002)) else (spec_RefineAt.j4 k x0 x3 true x310000 x310001 x310002 x310003 x311000 x311001 x311002))) else (some (0, 0, 0, ([] : List (S72)), x10)))
def spec_RefineAt.j4 : Nat → Int → List Int → Bool → Int → Int → Int → List (S72) → Int → Int → Int → Option (Int × Int × Int × (List (S72)) × Int)
 | 0, _, _, _, _, _, _, _, _, _, _ => none
 | k + 1, x0, x3, x76, x310000, x310001, x310002, x310003, x311000, x311001, x311002 => if x76 = true then (some (0, 0, 0, ([] : List (S72)), 5)) else ((spec_l02Children.f k x0 x311000 x311001 x311002).bind fun bt320 => (if bt320.2 = true then (spec_RefineAt.l1 k x0 x3 bt320.1 (([] : List (S72))) 0 x310000 x310001 x310002 x310003 x311000 x311001 x311002) else (some (0, 0, 0, ([] : List (S72)), 3))))
def spec_RefineAt.l1 : Nat → Int → List Int → List (S31) → List (S72) → Int → Int → Int → Int → List (S72) → Int → Int → Int → Option (Int × Int × Int × (List (S72)) × Int)
 | 0, _, _, _, _, _, _, _, _, _, _, _, _ => none
 | k + 1, x0, x3, x15, x17, x18, x310000, x310001, x310002, x310003, x311000, x311001, x311002 => if x18 < (x310003.length : Int) then (if 0 ≤ x18 then (if (!(((rd_T72 x310003 x18).f0.f0) == x311000) || (!(((rd_T72 x310003 x18).f0.f1) == x311001) || (!(((rd_T72 x310003 x18).f0.f2) == x311002)))) = true then (if x17.length < 4398046511104 then (spec_RefineAt.l1 k x0 x3 x15 (x17 ++ [(⟨(⟨(rd_T72 x310003 x18).f0.f0, (rd_T72 x310003 x18).f0.f1, (rd_T72 x310003 x18).f0.f2⟩ : S31), (rd_T72 x310003 x18).f1⟩ : S72)]) (wrap64 (x18 + 1)) x310000 x310001 x310002 x310003 x311000 x311001 x311002) else (none)) else (spec_RefineAt.l1 k x0 x3 x15 x17 (wrap64 (x18 + 1)) x310000 x310001 x310002 x310003 x311000 x311001 x311002)) else (none)) else (spec_RefineAt.l2 k x0 x3 x15 x17 0 x310000 x310001 x310002 x310003)
def spec_RefineAt.l2 : Nat → Int → List Int → List (S31) → List (S72) → Int → Int → Int → Int → List (S72) → Option (Int × Int × Int × (List (S72)) × Int)
 | 0, _, _, _, _, _, _, _, _, _ => none
 | k + 1, x0, x3, x15, x17, x19, x310000, x310001, x310002, x310003 => if x19 < (x15.length : Int) then (if 0 ≤ x19 then (if x19 < (x3.length : Int) then (if x17.length < 4398046511104 then (spec_RefineAt.l2 k x0 x3 x15 (x17 ++ [(⟨(⟨(rd_T31 x15 x19).f0, (rd_T31 x15 x19).f1, (rd_T31 x15 x19).f2⟩ : S31), rd x3 x19⟩ : S72)]) (wrap64 (x19 + 1)) x310000 x310001 x310002 x310003) else (none)) else (none)) else (none)) else ((spec_l08Told.f k x0 x310000 x310001 x310002 x17).bind fun bt337 => (some (bt337.1, bt337.2.1, bt337.2.2.1, bt337.2.2.2.1, bt337.2.2.2.2)))
end
def spec_RefineAt.f (k : Nat) (a0 a1_0 a1_1 a1_2 : Int) (l1_3 : List (S72)) (a2_0 a2_1 a2_2 : Int) (l3 : List Int) : Option (Int × Int × Int × (List (S72)) × Int) := (spec_l08Code.f k a0 a1_0 a1_1 a1_2 l1_3 a2_0 a2_1 a2_2).bind fun t312 => (if t312 = 1 then (spec_RefineAt.j0 k a0 l3 t312 false a1_0 a1_1 a1_2 l1_3 a2_0 a2_1 a2_2) else (spec_RefineAt.j0 k a0 l3 t312 ((l3.length : Int) != a0) a1_0 a1_1 a1_2 l1_3 a2_0 a2_1 a2_2))
def spec_RefineAt.T23 : Bool × List (List Nat × List Nat) := (true, [([], []), ([0], [0]), ([], []), ([1, 2], [1, 2]), ([3], [3]), ([4], [4]), ([], []), ([5, 6], [5, 6])])
def spec_RefineAt.B23 : List Nat := [0, 1, 0, 7, 15, 31, 0, 127]
theorem spec_RefineAt.tab23 : rtab .any (opsOf Try.f20 23) = spec_RefineAt.T23 := by kernel_rfl
theorem spec_RefineAt.bits23 : waitsOk spec_RefineAt.T23.2 spec_RefineAt.B23 = true := by kernel_rfl
def spec_RefineAt.T28 : Bool × List (List Nat × List Nat) := (true, [([], []), ([], []), ([], []), ([1, 2], [1, 2]), ([3], [3]), ([], []), ([], []), ([5, 6], [5, 6]), ([7], [7]), ([4, 8], [4, 8]), ([9], [9]), ([0, 10], [0, 10]), ([11, 11, 0, 1, 2, 3, 4, 5, 6, 7, 8, 9, 10, 11], [0, 11])])
def spec_RefineAt.B28 : List Nat := [0, 0, 0, 6, 14, 0, 0, 96, 224, 510, 1022, 2047, 4095]
theorem spec_RefineAt.tab28 : rtab .any (opsOf Try.f20 28) = spec_RefineAt.T28 := by kernel_rfl
theorem spec_RefineAt.bits28 : waitsOk spec_RefineAt.T28.2 spec_RefineAt.B28 = true := by kernel_rfl
set_option maxHeartbeats 8000000 in
set_option maxRecDepth 100000 in
theorem spec_RefineAt.calls (k : Nat) (a0 a1_0 a1_1 a1_2 : Int) (A1_3 : Option Addr) (c1_3 : Nat) (l1_3 : List (S72)) (a2_0 a2_1 a2_2 : Int) (A3 : Option Addr) (c3 : Nat) (l3 : List Int) (r1 r2 r3 : Int) (r4 : List (S72)) (r5 : Int) (w : World) (hr1_3 : Kd.C k72 w A1_3 l1_3.length l1_3) (hc1_3 : l1_3.length ≤ c1_3) (hr3 : Kd.C (Kd.int .i64) w A3 l3.length l3) (hc3 : l3.length ≤ c3) (h : spec_RefineAt.f k a0 a1_0 a1_1 a1_2 l1_3 a2_0 a2_1 a2_2 l3 = some (r1, r2, r3, r4, r5)) :
  Calls Try.prog 20 #[.int .i64 a0, .agg #[.int .i64 a1_0, .int .i64 a1_1, .int .i64 a1_2, .slice A1_3 l1_3.length c1_3], .agg #[.int .i64 a2_0, .int .i64 a2_1, .int .i64 a2_2], .slice A3 l3.length c3] w fun e w' => ∃ v3_ : Value, e = .returned (.tuple #[.agg #[.int .i64 r1, .int .i64 r2, .int .i64 r3, v3_], .int .i64 r5]) ∧ Kd.R k72 72 w' w.heap.size (fun _ => True) v3_ r4 ∧ Below w.heap.size w w' := by
 have hu34 := Try.underlying34
 have hu31 := Try.underlying31
 have hu72 := Try.underlying72
 have HR1_3 := Aside0.mk hr1_3
 have HC1_3 := Aside0.mk hc1_3
 clear hr1_3 hc1_3
 have HR3 := Aside0.mk hr3
 have HC3 := Aside0.mk hc3
 clear hr3 hc3
 have HB := Aside0.mk (Below.refl w.heap.size w)
 unfold spec_RefineAt.f at h
 have H := h
 clear h
 replace H := oc_ H
 obtain ⟨t312, A5, H⟩ := H
 have HC6 := Aside0.mk H
 clear H
 go_enter Try.func20, Try.ntmps20
 go_upto_region 2 with (first | ((refine gd_ 5 ?_); (try (refine gate_guard (by rfl) ?_; dsimp only)); refine by_ 5 #[.int .i64 a1_0, .int .i64 a1_1, .int .i64 a1_2, .slice A1_3 l1_3.length c1_3] 34 HB ?_; intro gb309 hg w7 BK309 hb GW309 HB_; replace HB := HB_; clear hb hg) | ((refine gd_ 6 ?_); (try (refine gate_guard (by rfl) ?_; dsimp only)); refine by_ 6 #[.int .i64 a2_0, .int .i64 a2_1, .int .i64 a2_2] 31 HB ?_; intro gb310 hg w8 BK310 hb GW310 HB_; have NB309_310 := bm_ BK309 hg; have NB310_309 := bn_ BK309 hg; replace BK309 := bb_ BK309 hb; replace HB := HB_; clear hb hg) | ((refine gd_ 8 ?_); (try (refine gate_guard (by rfl) ?_; dsimp only)); refine by_ 8 #[.int .i64 0, .int .i64 0, .int .i64 0, .slice none 0 0] 34 HB ?_; intro gb311 hg w9 BK311 hb GW311 HB_; have NB309_311 := bm_ BK309 hg; have NB311_309 := bn_ BK309 hg; have NB310_311 := bm_ BK310 hg; have NB311_310 := bn_ BK310 hg; replace BK309 := bb_ BK309 hb; replace BK310 := bb_ BK310 hb; replace HB := HB_; clear hb hg; have hnb10 := NB309_310.out; have hnc10 := NB310_309.out; have hnb11 := NB309_311.out; have hnc11 := NB311_309.out; obtain ⟨hcz12_0, hcz12_1, hcz12_2, hcz12_3, hfz12_0, hfz12_1, hfz12_2, hfz12_3⟩ := ch4_ BK309; have hnb13 := NB310_311.out; have hnc13 := NB311_310.out; obtain ⟨hcz14_0, hcz14_1, hcz14_2, hfz14_0, hfz14_1, hfz14_2⟩ := ch3_ BK310) | ((refine gc_ 39 ?_); refine ge_ 25 Try.func39 #[.int .i64 a0, .agg #[.int .i64 a1_0, .int .i64 a1_1, .int .i64 a1_2, .slice A1_3 l1_3.length c1_3], .agg #[.int .i64 a2_0, .int .i64 a2_1, .int .i64 a2_2]] ?_; (with_reducible refine (spec_l08Code.calls k a0 a1_0 a1_1 a1_2 _ _ l1_3 a2_0 a2_1 a2_2 t312 _ ?side1 ?side2 A5.out).mono ?_); (case side1 => exact ca_ (Kd.C_below HR1_3.out HB.out)); (case side2 => exact HC1_3.out); rintro e w15 ⟨rfl, hb⟩; refine ⟨_, rfl, ?_⟩; replace BK309 := bb_ BK309 hb; replace BK310 := bb_ BK310 hb; replace BK311 := bb_ BK311 hb; replace HB := bt_ HB hb; (try clear hb)))
 (try simp only [Act.put, lstS, lstZ, lstC])
 go_cut [33] (fun v33 wc => ∃ (kq : Nat) (x33_5 : Bool), v33 = .bool x33_5 ∧ Aside0 (spec_RefineAt.j0 kq a0 l3 t312 x33_5 a1_0 a1_1 a1_2 l1_3 a2_0 a2_1 a2_2 = some (r1, r2, r3, r4, r5)) ∧ Aside0 (kq ≤ k) ∧ Aside0 (wc.heap[gb309]? = some (.cells #[.int .i64 a1_0, .int .i64 a1_1, .int .i64 a1_2, (.slice A1_3 l1_3.length c1_3)] 34 (0, 0))) ∧ Aside0 (wc.heap[gb310]? = some (.cells #[.int .i64 a2_0, .int .i64 a2_1, .int .i64 a2_2] 31 (0, 0))) ∧ Aside0 (wc.heap[gb311]? = some (.cells #[.int .i64 0, .int .i64 0, .int .i64 0, (.slice none 0 0)] 34 (0, 0))) ∧ Aside0 (Below w.heap.size w wc))
 case first =>
  have H := HC6.out
  clear HC6
  replace H := ie_ H
  rcases H with ⟨c16b0, c16b1, H⟩ | ⟨c16, c16b0, c16b1, H⟩
  ·(first | rw [c16b0] | (simp only [i64_w, i32_w]; rw [c16b0]) | skip)
   have H' := Aside0.mk H
   clear H
   go_wp2
   go_meet
   case rel => exact ⟨_, (false), en_, H', ⟨by first | omega | exact Nat.le_refl _⟩, bl_ BK309, bl_ BK310, bl_ BK311, bw_ HB⟩
  (first | rw [c16b0] | (simp only [i64_w, i32_w]; rw [c16b0]) | skip)
  have H' := Aside0.mk H
  clear H
  go_wp2
  go_meet
  case rel => exact ⟨_, (((l3.length : Int) != a0)), en_, H', ⟨by first | omega | exact Nat.le_refl _⟩, bl_ BK309, bl_ BK310, bl_ BK311, bw_ HB⟩
 clear HC6
 try clear c3
 try clear c16
 try clear c16b0
 try clear c16b1
 try clear hcz12_0 hcz12_1 hcz12_2 hcz12_3
 try clear hcz14_0 hcz14_1 hcz14_2
 try clear hfz12_0 hfz12_1 hfz12_2 hfz12_3
 try clear hfz14_0 hfz14_1 hfz14_2
 obtain ⟨kq, x33_5, rfl, HA, HJ5, BK309, BK310, BK311, HB⟩ := hcut
 cases kq with
 | zero => exact absurd HA.out (by simp [spec_RefineAt.j0])
 | succ kj5 =>
  have H := HA.out
  clear HA
  simp only [spec_RefineAt.j0] at H
  have HC17 := Aside0.mk H
  clear H
  go_upto_if 33 with (fail)
  go_cut [10] (fun v10 wc => ∃ (kq : Nat) (x10_16 : Int), v10 = .int .i64 x10_16 ∧ Aside0 (spec_RefineAt.j1 kq a0 l3 x10_16 a1_0 a1_1 a1_2 l1_3 a2_0 a2_1 a2_2 = some (r1, r2, r3, r4, r5)) ∧ Aside0 (kq ≤ kj5) ∧ Aside0 (wc.heap[gb309]? = some (.cells #[.int .i64 a1_0, .int .i64 a1_1, .int .i64 a1_2, (.slice A1_3 l1_3.length c1_3)] 34 (0, 0))) ∧ Aside0 (wc.heap[gb310]? = some (.cells #[.int .i64 a2_0, .int .i64 a2_1, .int .i64 a2_2] 31 (0, 0))) ∧ Aside0 (wc.heap[gb311]? = some (.cells #[.int .i64 0, .int .i64 0, .int .i64 0, (.slice none 0 0)] 34 (0, 0))) ∧ Aside0 (Below w.heap.size w wc))
  case first =>
   have H := HC17.out
   clear HC17
   replace H := ib_ H
   rcases H with ⟨rfl, H⟩ | ⟨rfl, H⟩
   ·have H' := Aside0.mk H
    clear H
    go_wp2
    go_meet
    case rel => exact ⟨_, (2), en_, H', ⟨by have := HJ5.out; first | omega | exact Nat.le_refl _⟩, bl_ BK309, bl_ BK310, bl_ BK311, bw_ HB⟩
   have H' := Aside0.mk H
   clear H
   go_wp2
   go_meet
   case rel => exact ⟨_, (t312), en_, H', ⟨by have := HJ5.out; first | omega | exact Nat.le_refl _⟩, bl_ BK309, bl_ BK310, bl_ BK311, bw_ HB⟩
  clear HC17
  try clear c3
  try clear c16
  try clear c16b0
  try clear c16b1
  try clear hcz12_0 hcz12_1 hcz12_2 hcz12_3
  try clear hcz14_0 hcz14_1 hcz14_2
  try clear hfz12_0 hfz12_1 hfz12_2 hfz12_3
  try clear hfz14_0 hfz14_1 hfz14_2
  obtain ⟨kq, x10_16, rfl, HA, HJ16, BK309, BK310, BK311, HB⟩ := hcut
  cases kq with
  | zero => exact absurd HA.out (by simp [spec_RefineAt.j1])
  | succ kj16 =>
   have H := HA.out
   clear HA
   simp only [spec_RefineAt.j1] at H
   have H' := Aside0.mk H
   clear H
   go_wp2
   go_loopg [10, 11, 12] kj16 (fun kq v10 v11 v12 w' => ∃ (x10_3 : Int) (x11_3 : Int) (x12_3 : Int), v10 = .int .i64 x10_3 ∧ v11 = .int .i64 x11_3 ∧ v12 = .int .i64 x12_3 ∧ Aside0 (spec_RefineAt.l0 kq a0 l3 x10_3 x11_3 x12_3 a1_0 a1_1 a1_2 l1_3 a2_0 a2_1 a2_2 = some (r1, r2, r3, r4, r5)) ∧ Aside0 (kq ≤ kj16) ∧ Aside0 (w'.heap[gb309]? = some (.cells #[.int .i64 a1_0, .int .i64 a1_1, .int .i64 a1_2, (.slice A1_3 l1_3.length c1_3)] 34 (0, 0))) ∧ Aside0 (w'.heap[gb310]? = some (.cells #[.int .i64 a2_0, .int .i64 a2_1, .int .i64 a2_2] 31 (0, 0))) ∧ Aside0 (w'.heap[gb311]? = some (.cells #[.int .i64 0, .int .i64 0, .int .i64 0, (.slice none 0 0)] 34 (0, 0))) ∧ Aside0 (Below w.heap.size w w'))
   case atStart => exact ⟨(x10_16), (0), (0), en_, en_, en_, H', ⟨Nat.le_refl _⟩, bl_ BK309, bl_ BK310, bl_ BK311, bw_ HB⟩
   clear H'
   try clear c3
   try clear c16
   try clear c16b0
   try clear c16b1
   try clear hcz12_0 hcz12_1 hcz12_2 hcz12_3
   try clear hcz14_0 hcz14_1 hcz14_2
   try clear hfz12_0 hfz12_1 hfz12_2 hfz12_3
   try clear hfz14_0 hfz14_1 hfz14_2
   obtain ⟨x10_3, x11_3, x12_3, rfl, rfl, rfl, HA, HK3, BK309, BK310, BK311, HB⟩ := hrel
   cases gk with
   | zero => exact absurd HA.out (by simp [spec_RefineAt.l0])
   | succ k3 =>
    have H := HA.out
    clear HA
    simp only [spec_RefineAt.l0] at H
    have HC19 := Aside0.mk H
    clear H
    go_upto_region 6 with (fail)
    go_cut [41] (fun v41 wc => ∃ (kq : Nat) (x41_18 : Bool), v41 = .bool x41_18 ∧ Aside0 (spec_RefineAt.j3 kq a0 l3 x10_3 x11_3 x12_3 x41_18 a1_0 a1_1 a1_2 l1_3 a2_0 a2_1 a2_2 = some (r1, r2, r3, r4, r5)) ∧ Aside0 (kq ≤ k3) ∧ Aside0 (wc.heap[gb309]? = some (.cells #[.int .i64 a1_0, .int .i64 a1_1, .int .i64 a1_2, (.slice A1_3 l1_3.length c1_3)] 34 (0, 0))) ∧ Aside0 (wc.heap[gb310]? = some (.cells #[.int .i64 a2_0, .int .i64 a2_1, .int .i64 a2_2] 31 (0, 0))) ∧ Aside0 (wc.heap[gb311]? = some (.cells #[.int .i64 0, .int .i64 0, .int .i64 0, (.slice none 0 0)] 34 (0, 0))) ∧ Aside0 (Below w.heap.size w wc))
    case first =>
     have H := HC19.out
     clear HC19
     replace H := il_ H
     rcases H with ⟨c20b0, H⟩ | ⟨c20b0, H⟩
     ·(first | rw [c20b0] | (simp only [i64_w, i32_w]; rw [c20b0]) | skip)
      have H' := Aside0.mk H
      clear H
      go_wp2
      go_meet
      case rel => exact ⟨_, ((x10_3 == 0)), en_, H', ⟨by have := HJ5.out; have := HJ16.out; have := HK3.out; first | omega | exact Nat.le_refl _⟩, bl_ BK309, bl_ BK310, bl_ BK311, bw_ HB⟩
     (first | rw [c20b0] | (simp only [i64_w, i32_w]; rw [c20b0]) | skip)
     have H' := Aside0.mk H
     clear H
     go_wp2
     go_meet
     case rel => exact ⟨_, (false), en_, H', ⟨by have := HJ5.out; have := HJ16.out; have := HK3.out; first | omega | exact Nat.le_refl _⟩, bl_ BK309, bl_ BK310, bl_ BK311, bw_ HB⟩
    clear HC19
    try clear c3
    try clear c16
    try clear c16b0
    try clear c16b1
    try clear c20b0
    try clear hcz12_0 hcz12_1 hcz12_2 hcz12_3
    try clear hcz14_0 hcz14_1 hcz14_2
    try clear hfz12_0 hfz12_1 hfz12_2 hfz12_3
    try clear hfz14_0 hfz14_1 hfz14_2
    obtain ⟨kq, x41_18, rfl, HA, HJ18, BK309, BK310, BK311, HB⟩ := hcut
    cases kq with
    | zero => exact absurd HA.out (by simp [spec_RefineAt.j3])
    | succ kj18 =>
     have H := HA.out
     clear HA
     simp only [spec_RefineAt.j3] at H
     replace H := ib_ H
     rcases H with ⟨rfl, H⟩ | ⟨rfl, H⟩
     ·replace H := imn_ H
      obtain ⟨c22b0, H⟩ := H
      replace H := iln_ H
      obtain ⟨c23b0, H⟩ := H
      replace H := oc_ H
      obtain ⟨t314, A24, H⟩ := H
      replace H := ib_ H
      rcases H with ⟨rfl, H⟩ | ⟨rfl, H⟩
      ·have H' := Aside0.mk H
       clear H
       have p313 : 0 ≤ (x12_3 : Int) := od_
       have q313 : x12_3 < (l3.length : Int) := od_
       obtain ⟨ad313, e313, hx313_0⟩ := Kd.at_int HR3.out x12_3 p313 q313
       cases e313
       replace hx313_0 := clTr HB.out hx313_0
       replace p313 := eq_true p313
       replace q313 := eq_true q313
       go_wp2_with (first | ((refine gc_ 42 ?_); refine ge_ 48 Try.func42 #[.int .i64 (rd l3 x12_3), .int .i64 (-1000000), .int .i64 1000000] ?_; (with_reducible refine (spec_l01In.calls (rd l3 x12_3) (-1000000) 1000000 true _ A24.out).mono ?_); rintro e w' ⟨rfl, ⟨nd, rfl⟩⟩; refine ⟨_, rfl, ?_⟩; have p315 : 0 ≤ (x12_3 : Int) := od_; have q315 : x12_3 < (l3.length : Int) := od_; obtain ⟨ad315, e315, hx315_0⟩ := Kd.at_int HR3.out x12_3 p315 q315; obtain rfl : ad313 = ad315 := (by injection e315); replace hx315_0 := clTr HB.out hx315_0; replace p315 := eq_true p315; replace q315 := eq_true q315))
       go_roundg kj18
       case measure => have := HJ5.out; have := HJ16.out; have := HK3.out; have := HJ18.out; omega
       case rel => exact ⟨(x10_3), (wrap64 (x11_3 + (rd l3 x12_3))), (wrap64 (x12_3 + 1)), en_, en_, en_, H', ⟨by have := HJ5.out; have := HJ16.out; have := HK3.out; have := HJ18.out; omega⟩, bl_ BK309, bl_ BK310, bl_ BK311, bw_ HB⟩
      have H' := Aside0.mk H
      clear H
      have p313 : 0 ≤ (x12_3 : Int) := od_
      have q313 : x12_3 < (l3.length : Int) := od_
      obtain ⟨ad313, e313, hx313_0⟩ := Kd.at_int HR3.out x12_3 p313 q313
      cases e313
      replace hx313_0 := clTr HB.out hx313_0
      replace p313 := eq_true p313
      replace q313 := eq_true q313
      go_wp2_with (first | ((refine gc_ 42 ?_); refine ge_ 48 Try.func42 #[.int .i64 (rd l3 x12_3), .int .i64 (-1000000), .int .i64 1000000] ?_; (with_reducible refine (spec_l01In.calls (rd l3 x12_3) (-1000000) 1000000 false _ A24.out).mono ?_); rintro e w' ⟨rfl, ⟨nd, rfl⟩⟩; refine ⟨_, rfl, ?_⟩; have p316 : 0 ≤ (x12_3 : Int) := od_; have q316 : x12_3 < (l3.length : Int) := od_; obtain ⟨ad316, e316, hx316_0⟩ := Kd.at_int HR3.out x12_3 p316 q316; obtain rfl : ad313 = ad316 := (by injection e316); replace hx316_0 := clTr HB.out hx316_0; replace p316 := eq_true p316; replace q316 := eq_true q316))
      go_roundg kj18
      case measure => have := HJ5.out; have := HJ16.out; have := HK3.out; have := HJ18.out; omega
      case rel => exact ⟨(2), (wrap64 (x11_3 + (rd l3 x12_3))), (wrap64 (x12_3 + 1)), en_, en_, en_, H', ⟨by have := HJ5.out; have := HJ16.out; have := HK3.out; have := HJ18.out; omega⟩, bl_ BK309, bl_ BK310, bl_ BK311, bw_ HB⟩
     replace H := ie_ H
     rcases H with ⟨c26b0, c26b1, H⟩ | ⟨c26, c26b0, c26b1, H⟩
     ·replace H := oc_ H
      obtain ⟨⟨t317, t318⟩, A27, H⟩ := H
      have HC28 := Aside0.mk H
      clear H
      have hnb29 := NB309_310.out
      have hnc29 := NB310_309.out
      have hnb30 := NB309_311.out
      have hnc30 := NB311_309.out
      obtain ⟨hcz31_0, hcz31_1, hcz31_2, hcz31_3, hfz31_0, hfz31_1, hfz31_2, hfz31_3⟩ := ch4_ BK309
      have hnb32 := NB310_311.out
      have hnc32 := NB311_310.out
      obtain ⟨hcz33_0, hcz33_1, hcz33_2, hfz33_0, hfz33_1, hfz33_2⟩ := ch3_ BK310
      go_upto_region 14 with (first | ((refine gc_ 40 ?_); refine ge_ 64 Try.func40 #[.int .i64 a0, .agg #[.int .i64 a1_0, .int .i64 a1_1, .int .i64 a1_2, .slice A1_3 l1_3.length c1_3], .agg #[.int .i64 a2_0, .int .i64 a2_1, .int .i64 a2_2]] ?_; (with_reducible refine (spec_l08Within.calls kj18 a0 a1_0 a1_1 a1_2 _ _ l1_3 a2_0 a2_1 a2_2 t317 t318 _ ?side1 ?side2 A27.out).mono ?_); (case side1 => exact ca_ (Kd.C_below HR1_3.out HB.out)); (case side2 => exact HC1_3.out); rintro e w34 ⟨rfl, hb⟩; refine ⟨_, rfl, ?_⟩; replace BK309 := bb_ BK309 hb; replace BK310 := bb_ BK310 hb; replace BK311 := bb_ BK311 hb; replace HB := bt_ HB hb; (try clear hb)))
      (try simp only [Act.put, lstS, lstZ, lstC])
      go_cut [76] (fun v76 wc => ∃ (kq : Nat) (x76_27 : Bool), v76 = .bool x76_27 ∧ Aside0 (spec_RefineAt.j4 kq a0 l3 x76_27 a1_0 a1_1 a1_2 l1_3 a2_0 a2_1 a2_2 = some (r1, r2, r3, r4, r5)) ∧ Aside0 (kq ≤ kj18) ∧ Aside0 (wc.heap[gb309]? = some (.cells #[.int .i64 a1_0, .int .i64 a1_1, .int .i64 a1_2, (.slice A1_3 l1_3.length c1_3)] 34 (0, 0))) ∧ Aside0 (wc.heap[gb310]? = some (.cells #[.int .i64 a2_0, .int .i64 a2_1, .int .i64 a2_2] 31 (0, 0))) ∧ Aside0 (wc.heap[gb311]? = some (.cells #[.int .i64 0, .int .i64 0, .int .i64 0, (.slice none 0 0)] 34 (0, 0))) ∧ Aside0 (Below w.heap.size w wc))
      case first =>
       have H := HC28.out
       clear HC28
       replace H := ib_ H
       rcases H with ⟨rfl, H⟩ | ⟨rfl, H⟩
       ·replace H := oc_ H
        obtain ⟨t319, A36, H⟩ := H
        have H' := Aside0.mk H
        clear H
        have hnb37 := NB309_310.out
        have hnc37 := NB310_309.out
        have hnb38 := NB309_311.out
        have hnc38 := NB311_309.out
        obtain ⟨hcz39_0, hcz39_1, hcz39_2, hcz39_3, hfz39_0, hfz39_1, hfz39_2, hfz39_3⟩ := ch4_ BK309
        have hnb40 := NB310_311.out
        have hnc40 := NB311_310.out
        obtain ⟨hcz41_0, hcz41_1, hcz41_2, hfz41_0, hfz41_1, hfz41_2⟩ := ch3_ BK310
        go_wp2_with (first | (go_at_call 54; (with_reducible refine (spec_l08Weight.calls kj18 a0 a1_0 a1_1 a1_2 _ _ l1_3 a2_0 a2_1 a2_2 t319 _ ?side1 ?side2 A36.out).mono ?_); (case side1 => exact ca_ (Kd.C_below HR1_3.out (bw_ HB).out)); (case side2 => exact HC1_3.out); rintro e w42 ⟨rfl, hb⟩; replace BK309 := bb_ BK309 hb; replace BK310 := bb_ BK310 hb; replace BK311 := bb_ BK311 hb; replace HB := bt_ HB hb; (try clear hb)))
        go_meet
        case rel => exact ⟨_, ((x11_3 != t319)), en_, H', ⟨by have := HJ5.out; have := HJ16.out; have := HK3.out; have := HJ18.out; first | omega | exact Nat.le_refl _⟩, bl_ BK309, bl_ BK310, bl_ BK311, bw_ HB⟩
       have H' := Aside0.mk H
       clear H
       go_wp2
       go_meet
       case rel => exact ⟨_, (true), en_, H', ⟨by have := HJ5.out; have := HJ16.out; have := HK3.out; have := HJ18.out; first | omega | exact Nat.le_refl _⟩, bl_ BK309, bl_ BK310, bl_ BK311, bw_ HB⟩
      clear HC28
      try clear c3
      try clear c16
      try clear c16b0
      try clear c16b1
      try clear c20b0
      try clear c22b0
      try clear c23b0
      try clear c26
      try clear c26b0
      try clear c26b1
      try clear hcz12_0 hcz12_1 hcz12_2 hcz12_3
      try clear hcz14_0 hcz14_1 hcz14_2
      try clear hcz31_0 hcz31_1 hcz31_2 hcz31_3
      try clear hcz33_0 hcz33_1 hcz33_2
      try clear hcz39_0 hcz39_1 hcz39_2 hcz39_3
      try clear hcz41_0 hcz41_1 hcz41_2
      try clear hfz12_0 hfz12_1 hfz12_2 hfz12_3
      try clear hfz14_0 hfz14_1 hfz14_2
      try clear hfz31_0 hfz31_1 hfz31_2 hfz31_3
      try clear hfz33_0 hfz33_1 hfz33_2
      try clear hfz39_0 hfz39_1 hfz39_2 hfz39_3
      try clear hfz41_0 hfz41_1 hfz41_2
      try clear hx313_0
      try clear hx315_0
      try clear hx316_0
      try clear p313
      try clear p315
      try clear p316
      try clear q313
      try clear q315
      try clear q316
      obtain ⟨kq, x76_27, rfl, HA, HJ27, BK309, BK310, BK311, HB⟩ := hcut
      cases kq with
      | zero => exact absurd HA.out (by simp [spec_RefineAt.j4])
      | succ kj27 =>
       have H := HA.out
       clear HA
       simp only [spec_RefineAt.j4] at H
       replace H := ib_ H
       rcases H with ⟨rfl, H⟩ | ⟨rfl, H⟩
       ·simp only [Option.some.injEq, Prod.mk.injEq] at H
        obtain ⟨rfl, rfl, rfl, rfl, rfl⟩ := H
        have hnb44 := NB311_309.out
        have hnc44 := NB309_311.out
        have hnb45 := NB311_310.out
        have hnc45 := NB310_311.out
        obtain ⟨hcz46_0, hcz46_1, hcz46_2, hcz46_3, hfz46_0, hfz46_1, hfz46_2, hfz46_3⟩ := ch4_ BK311
        go_wp2
        refine bodyPost_ret (results_ct rfl _ _ gb311 34 #[.int .i64 0, .int .i64 0, .int .i64 0, .slice none 0 0] (0, 0) _ rfl (bp_ BK311).out Try.underlying34 rfl (by kernel_rfl)) rfl ?_
        exact ⟨_, es_, by first | exact Kd.R_nil _ _ _ _ _ | exact Kd.N_nil _ _ _ _ _ | exact Kd.V_nil _ _ _ _ _ | exact Kd.Q_nil _ _ _ _ _ | exact Kd.S_nil _ _ _ _ _, (bw_ HB).out⟩
       replace H := oc_ H
       obtain ⟨⟨t320, t323⟩, A47, H⟩ := H
       replace H := ib_ H
       rcases H with ⟨rfl, H⟩ | ⟨rfl, H⟩
       ·obtain ⟨y324, hy324⟩ : ∃ y_ : List (S72), y_ = (([] : List (S72))) := ⟨_, rfl⟩
        replace H : (spec_RefineAt.l1 kj27 a0 l3 t320 y324 0 a1_0 a1_1 a1_2 l1_3 a2_0 a2_1 a2_2) = some (r1, r2, r3, r4, r5) := by first | (rw [hy324]; with_reducible exact H) | (have H2_ := (Option.bind_some _ _).symm.trans H; rw [hy324]; with_reducible exact H2_) | (have H2_ := (Option.bind_some _ _).symm.trans H; with_reducible exact H2_) | with_reducible exact H | (rw [hy324]; exact H) | exact H
        have Ny324 := Aside0.mk hy324
        clear hy324
        have H' := Aside0.mk H
        clear H
        have hnb49 := NB310_309.out
        have hnc49 := NB309_310.out
        have hnb50 := NB310_311.out
        have hnc50 := NB311_310.out
        obtain ⟨hcz51_0, hcz51_1, hcz51_2, hfz51_0, hfz51_1, hfz51_2⟩ := ch3_ BK310
        go_wp2_with (first | ((refine gc_ 55 ?_); refine ge_ 81 Try.func55 #[.int .i64 a0, .agg #[.int .i64 a2_0, .int .i64 a2_1, .int .i64 a2_2]] ?_; (with_reducible refine (spec_l02Children.calls kj27 a0 a2_0 a2_1 a2_2 t320 true _ A47.out).mono ?_); rintro e w52 ⟨v321, rfl, ho0, hb⟩; refine ⟨_, rfl, ?_⟩; have HO322 := Aside0.mk (Kd.R_lower (Kd.R_newB ho0 (g := gb310) (o := .cells #[.int .i64 a2_0, .int .i64 a2_1, .int .i64 a2_2] 31 (0, 0)) (bl_ BK310).out) (below_size (bw_ HB).out)); replace BK309 := bb_ BK309 hb; replace BK310 := bb_ BK310 hb; replace BK311 := bb_ BK311 hb; replace HB := bt_ HB hb; (try clear hb); (try clear ho0)) | ((refine gd_ 87 ?_); (try (refine gate_guard (by rfl) ?_; dsimp only)); refine Kd.R_lit k72 _ 72 ?hg (N := 87) ?hd (xs := ([] : List (S72))) (inner := []) (ok := fun _ => True) (okp := fun _ => True) ?hr ?hp (fun _ hk => hk) trivial (Below.refl _ _) (Nat.le_refl _) (by simp) ?_; (case hd => rfl); (case hg => rfl); (case hr => first | (go_simp; done) | (go_simp; rfl)); (case hp => exact (Reps.none _ _)); intro v325 w53 ho54 hb hg_ hnew_; clear hg_ hnew_; (first | rw [← Ny324.out] at ho54 | (simp only [Int.reduceToNat] at ho54; rw [← Ny324.out] at ho54)); have HO326 := Aside0.mk (Kd.R_lower ho54 (below_size (bw_ HB).out)); replace HO322 := rb_ HO322 hb; replace BK309 := bb_ BK309 hb; replace BK310 := bb_ BK310 hb; replace BK311 := bb_ BK311 hb; replace HB := bt_ HB hb; clear hb ho54))
        go_loopg [17, 18] kj27 (fun kq v17 v18 w' => ∃ (x17_6 : List (S72)) (x18_6 : Int), v18 = .int .i64 x18_6 ∧ Aside0 (spec_RefineAt.l1 kq a0 l3 t320 x17_6 x18_6 a1_0 a1_1 a1_2 l1_3 a2_0 a2_1 a2_2 = some (r1, r2, r3, r4, r5)) ∧ Aside0 (kq ≤ kj27) ∧ Aside0 (Kd.R k31 31 w' w.heap.size (fun k_ => k_ ≠ gb310) v321 t320) ∧ Aside0 (Kd.R k72 72 w' w.heap.size (fun _ => True) v17 x17_6) ∧ Aside0 (w'.heap[gb309]? = some (.cells #[.int .i64 a1_0, .int .i64 a1_1, .int .i64 a1_2, (.slice A1_3 l1_3.length c1_3)] 34 (0, 0))) ∧ Aside0 (w'.heap[gb310]? = some (.cells #[.int .i64 a2_0, .int .i64 a2_1, .int .i64 a2_2] 31 (0, 0))) ∧ Aside0 (w'.heap[gb311]? = some (.cells #[.int .i64 0, .int .i64 0, .int .i64 0, (.slice none 0 0)] 34 (0, 0))) ∧ Aside0 (Below w.heap.size w w'))
        case atStart => exact ⟨(y324), (0), en_, H', ⟨Nat.le_refl _⟩, ⟨by (with_reducible repeat (first | apply Kd.R_alloc | apply Kd.R_drewN | apply Kd.R_drew)); exact Kd.R_mono HO322.out (fun _ hk => hk.2)⟩, ⟨by (with_reducible repeat (first | apply Kd.R_alloc | apply Kd.R_drewN | apply Kd.R_drew)); exact HO326.out⟩, bl_ BK309, bl_ BK310, bl_ BK311, bw_ HB⟩
        clear H'
        try clear c3
        try clear c16
        try clear c16b0
        try clear c16b1
        try clear c20b0
        try clear c22b0
        try clear c23b0
        try clear c26
        try clear c26b0
        try clear c26b1
        try clear hcz12_0 hcz12_1 hcz12_2 hcz12_3
        try clear hcz14_0 hcz14_1 hcz14_2
        try clear hcz31_0 hcz31_1 hcz31_2 hcz31_3
        try clear hcz33_0 hcz33_1 hcz33_2
        try clear hcz39_0 hcz39_1 hcz39_2 hcz39_3
        try clear hcz41_0 hcz41_1 hcz41_2
        try clear hcz46_0 hcz46_1 hcz46_2 hcz46_3
        try clear hcz51_0 hcz51_1 hcz51_2
        try clear hfz12_0 hfz12_1 hfz12_2 hfz12_3
        try clear hfz14_0 hfz14_1 hfz14_2
        try clear hfz31_0 hfz31_1 hfz31_2 hfz31_3
        try clear hfz33_0 hfz33_1 hfz33_2
        try clear hfz39_0 hfz39_1 hfz39_2 hfz39_3
        try clear hfz41_0 hfz41_1 hfz41_2
        try clear hfz46_0 hfz46_1 hfz46_2 hfz46_3
        try clear hfz51_0 hfz51_1 hfz51_2
        try clear hx313_0
        try clear hx315_0
        try clear hx316_0
        try clear p313
        try clear p315
        try clear p316
        try clear q313
        try clear q315
        try clear q316
        obtain ⟨x17_6, x18_6, rfl, HA, HK6, HO_15, HO_17, BK309, BK310, BK311, HB⟩ := hrel
        cases gk with
        | zero => exact absurd HA.out (by simp [spec_RefineAt.l1])
        | succ k6 =>
         have H := HA.out
         clear HA
         simp only [spec_RefineAt.l1] at H
         replace H := il_ H
         rcases H with ⟨c55b0, H⟩ | ⟨c55b0, H⟩
         ·replace H := imn_ H
          obtain ⟨c56b0, H⟩ := H
          by_cases c57 : (!(((rd_T72 l1_3 x18_6).f0.f0) == a2_0) || (!(((rd_T72 l1_3 x18_6).f0.f1) == a2_1) || (!(((rd_T72 l1_3 x18_6).f0.f2) == a2_2)))) = true
          ·rw [if_pos c57] at H
           have c57b0 : (!(((rd_T72 l1_3 x18_6).f0.f0) == a2_0) || (!(((rd_T72 l1_3 x18_6).f0.f1) == a2_1) || (!(((rd_T72 l1_3 x18_6).f0.f2) == a2_2)))) = true := c57
           clear c57
           by_cases c58 : x17_6.length < 4398046511104
           ·rw [if_pos c58] at H
            have LMc58 := Aside0.mk c58
            clear c58
            obtain ⟨y329, hy329⟩ : ∃ y_ : List (S72), y_ = (x17_6 ++ [(⟨(⟨(rd_T72 l1_3 x18_6).f0.f0, (rd_T72 l1_3 x18_6).f0.f1, (rd_T72 l1_3 x18_6).f0.f2⟩ : S31), (rd_T72 l1_3 x18_6).f1⟩ : S72)]) := ⟨_, rfl⟩
            replace H : (spec_RefineAt.l1 k6 a0 l3 t320 y329 (wrap64 (x18_6 + 1)) a1_0 a1_1 a1_2 l1_3 a2_0 a2_1 a2_2) = some (r1, r2, r3, r4, r5) := by first | (rw [hy329]; with_reducible exact H) | (have H2_ := (Option.bind_some _ _).symm.trans H; rw [hy329]; with_reducible exact H2_) | (have H2_ := (Option.bind_some _ _).symm.trans H; with_reducible exact H2_) | with_reducible exact H | (rw [hy329]; exact H) | exact H
            have Ny329 := Aside0.mk hy329
            clear hy329
            have H' := Aside0.mk H
            clear H
            have hnb59 := NB309_310.out
            have hnc59 := NB310_309.out
            have hnb60 := NB309_311.out
            have hnc60 := NB311_309.out
            obtain ⟨hcz61_0, hcz61_1, hcz61_2, hcz61_3, hfz61_0, hfz61_1, hfz61_2, hfz61_3⟩ := ch4_ BK309
            try go_wp2
            replace HO_15 := Aside0.mk (Kd.R_drew HO_15.out)
            replace HO_17 := Aside0.mk (Kd.R_drew HO_17.out)
            replace BK309 := bd_ BK309
            replace BK310 := bd_ BK310
            replace BK311 := bd_ BK311
            replace HB := be_ HB
            have p327 : 0 ≤ (x18_6 : Int) := od_
            have q327 : x18_6 < (l1_3.length : Int) := od_
            obtain ⟨ad327, e327, hx327_0, hx327_1, hx327_2, hx327_3⟩ := at_T72 HR1_3.out x18_6 p327 q327
            have hw327_3 := hx327_3
            have hw327_2 := hx327_2
            have hw327_1 := hx327_1
            have hw327_0 := hx327_0
            cases e327
            replace hx327_0 := clTr HB.out hx327_0
            replace hx327_1 := clTr HB.out hx327_1
            replace hx327_2 := clTr HB.out hx327_2
            replace hx327_3 := clTr HB.out hx327_3
            replace p327 := eq_true p327
            replace q327 := eq_true q327
            refine start_ (n := 8) (S := fun w' => w'.cell? ⟨gb309, 0, none⟩ = some (.int .i64 a1_0) ∧ w'.cell? ⟨gb309, 1, none⟩ = some (.int .i64 a1_1) ∧ w'.cell? ⟨gb309, 2, none⟩ = some (.int .i64 a1_2) ∧ w'.cell? ⟨gb309, 3, none⟩ = some (.slice (some ad327) l1_3.length c1_3) ∧ w'.cell? ⟨gb310, 0, none⟩ = some (.int .i64 a2_0) ∧ w'.cell? ⟨gb310, 1, none⟩ = some (.int .i64 a2_1) ∧ w'.cell? ⟨gb310, 2, none⟩ = some (.int .i64 a2_2) ∧ w'.cell? (ad327.add ((x18_6).toNat * 4)) = some (.int .i64 ((rd_T72 l1_3 x18_6).f0.f0)) ∧ w'.cell? ⟨(ad327.add ((x18_6).toNat * 4)).block, (ad327.add ((x18_6).toNat * 4)).off + 1, none⟩ = some (.int .i64 ((rd_T72 l1_3 x18_6).f0.f1)) ∧ w'.cell? ⟨(ad327.add ((x18_6).toNat * 4)).block, (ad327.add ((x18_6).toNat * 4)).off + 2, none⟩ = some (.int .i64 ((rd_T72 l1_3 x18_6).f0.f2)) ∧ w'.cell? ⟨(ad327.add ((x18_6).toNat * 4)).block, (ad327.add ((x18_6).toNat * 4)).off + 3, none⟩ = some (.int .i64 ((rd_T72 l1_3 x18_6).f1))) (ds := []) (bv_ 8 0) (by kernel_rfl) rfl rfl ⟨cz_ BK309 0, cz_ BK309 1, cz_ BK309 2, cz_ BK309 3, cz_ BK310 0, cz_ BK310 1, cz_ BK310 2, (clTr HB.out hw327_0 :), (clTr HB.out hw327_1 :), (clTr HB.out hw327_2 :), (clTr HB.out hw327_3 :)⟩ (fun hHeld => ?_); refine with_tabW spec_RefineAt.tab23 spec_RefineAt.bits23 (fun HT_ HW_ => ?_)
            generalize wr.drew = w62 at HO_15 HO_17 BK309 BK310 BK311 HB hx327_0 hx327_1 hx327_2 hx327_3 hHeld ⊢
            refine px_ HT_ 0 95 1 ?_
            refine px_ HT_ 2 97 5 ?_
            refine ta_ HT_ HW_ 1 (some 96) (bv_ 8 7) hHeld ?_ (hy := by rintro w' ⟨s0, s1, s2, s3, s4, s5, s6, s7, s8, s9, s10⟩; go_simp; with_reducible rfl)
            refine px_ HT_ 3 98 15 ?_
            refine px_ HT_ 4 99 31 ?_
            refine ta_ HT_ HW_ 5 (some 100) (bv_ 8 63) hHeld ?_ (hy := by rintro w' ⟨s0, s1, s2, s3, s4, s5, s6, s7, s8, s9, s10⟩; go_simp; with_reducible rfl)
            refine ta_ HT_ HW_ 6 (some 101) (bv_ 8 127) hHeld ?_ (hy := by rintro w' ⟨s0, s1, s2, s3, s4, s5, s6, s7, s8, s9, s10⟩; go_simp; with_reducible rfl)
            refine px_ HT_ 7 102 255 ?_
            refine done_ (done_of HT_.out (by kernel_rfl)) ?_
            obtain ⟨hcz63_0, hcz63_1, hcz63_2, hcz63_3, hfz63_0, hfz63_1, hfz63_2, hfz63_3⟩ := ch4_ BK309
            have p328 : 0 ≤ (x18_6 : Int) := od_
            have q328 : x18_6 < (l1_3.length : Int) := od_
            obtain ⟨ad328, e328, hx328_0, hx328_1, hx328_2, hx328_3⟩ := at_T72 HR1_3.out x18_6 p328 q328
            obtain rfl : ad327 = ad328 := (by injection e328)
            replace hx328_0 := clTr HB.out hx328_0
            replace hx328_1 := clTr HB.out hx328_1
            replace hx328_2 := clTr HB.out hx328_2
            replace hx328_3 := clTr HB.out hx328_3
            replace p328 := eq_true p328
            replace q328 := eq_true q328
            try go_wp2_with (first | ((with_reducible refine gate_builtin (b := .append) (xs := #[.tmp 103, .tmp 109]) rfl ?_); (try (refine gate_guard (by rfl) ?_; dsimp only)); at_builtin; refine Kd.R_append k72 (w0 := w) w.heap.size rfl (.tmp 103) (.tmp 109) 32 72 (.agg #[(.int .i64 0), (.int .i64 0), (.int .i64 0), (.int .i64 0)]) 32 rfl Try.underlying32 info72 rfl (by decide) (by omega) u17 x17_6 (⟨(⟨(rd_T72 l1_3 x18_6).f0.f0, (rd_T72 l1_3 x18_6).f0.f1, (rd_T72 l1_3 x18_6).f0.f2⟩ : S31), (rd_T72 l1_3 x18_6).f1⟩ : S72) [.int .i64 ((rd_T72 l1_3 x18_6).f0.f0), .int .i64 ((rd_T72 l1_3 x18_6).f0.f1), .int .i64 ((rd_T72 l1_3 x18_6).f0.f2), .int .i64 ((rd_T72 l1_3 x18_6).f1)] (fun _ => True) (fun _ => False) rfl rfl ?aP (fun _ hk => hk.elim) ?aF ?aO ?aB ?aS ?aL ?_; (case aP => exact k72_mkM _ _ _ (⟨(⟨(rd_T72 l1_3 x18_6).f0.f0, (rd_T72 l1_3 x18_6).f0.f1, (rd_T72 l1_3 x18_6).f0.f2⟩ : S31), (rd_T72 l1_3 x18_6).f1⟩ : S72)); (case aB => exact (bw_ HB).out); (case aF => exact (fun _ _ => trivial)); (case aO => exact (ra_ HO_17.out)); (case aS => exact (below_size (bw_ HB).out)); (case aL => have := LMc58.out; omega); intro v330 w64 ho hb hg hat; rw [← Ny329.out] at ho; have n0_ := Aside0.mk (Kd.R_over' (ra_ HO_15.out) (Kd.R_typed (ra_ HO_17.out)) (by decide) hg); have n1_ := Aside0.mk (blk_grown (g := gb309) (o := .cells #[.int .i64 a1_0, .int .i64 a1_1, .int .i64 a1_2, .slice (some ad327) l1_3.length c1_3] 34 (0, 0)) (bl_ BK309).out hg (Kd.R_ne HO_17.out BK309.out (by decide))); have n2_ := Aside0.mk (blk_grown (g := gb310) (o := .cells #[.int .i64 a2_0, .int .i64 a2_1, .int .i64 a2_2] 31 (0, 0)) (bl_ BK310).out hg (Kd.R_ne HO_17.out BK310.out (by decide))); have n3_ := Aside0.mk (blk_grown (g := gb311) (o := .cells #[.int .i64 0, .int .i64 0, .int .i64 0, .slice none 0 0] 34 (0, 0)) (bl_ BK311).out hg (Kd.R_ne HO_17.out BK311.out (by decide))); have n4_ := Aside0.mk (hb); have n5_ := Aside0.mk (ho); clear HO_15; clear BK309; clear BK310; clear BK311; clear HB; clear HO_17; have HO_15 := n0_; have BK309 := n1_; have BK310 := n2_; have BK311 := n3_; have HB := n4_; have HO331 := n5_; clear n0_ n1_ n2_ n3_ n4_ n5_; clear ho hb hg hat))
            go_roundg k6
            case measure => have := HJ5.out; have := HJ16.out; have := HK3.out; have := HJ18.out; have := HJ27.out; have := HK6.out; omega
            case rel => exact ⟨(y329), (wrap64 (x18_6 + 1)), en_, H', ⟨by have := HJ5.out; have := HJ16.out; have := HK3.out; have := HJ18.out; have := HJ27.out; have := HK6.out; omega⟩, ⟨by (with_reducible repeat (first | apply Kd.R_alloc | apply Kd.R_drewN | apply Kd.R_drew)); exact HO_15.out⟩, ⟨by (with_reducible repeat (first | apply Kd.R_alloc | apply Kd.R_drewN | apply Kd.R_drew)); exact HO331.out⟩, bl_ BK309, bl_ BK310, bl_ BK311, bw_ HB⟩
           rw [if_neg c58] at H
           exact absurd H (by simp)
          rw [if_neg c57] at H
          have c57b0 : (!(((rd_T72 l1_3 x18_6).f0.f0) == a2_0) || (!(((rd_T72 l1_3 x18_6).f0.f1) == a2_1) || (!(((rd_T72 l1_3 x18_6).f0.f2) == a2_2)))) = false := by simpa using c57
          clear c57
          have H' := Aside0.mk H
          clear H
          have hnb65 := NB309_310.out
          have hnc65 := NB310_309.out
          have hnb66 := NB309_311.out
          have hnc66 := NB311_309.out
          obtain ⟨hcz67_0, hcz67_1, hcz67_2, hcz67_3, hfz67_0, hfz67_1, hfz67_2, hfz67_3⟩ := ch4_ BK309
          try go_wp2
          replace HO_15 := Aside0.mk (Kd.R_drew HO_15.out)
          replace HO_17 := Aside0.mk (Kd.R_drew HO_17.out)
          replace BK309 := bd_ BK309
          replace BK310 := bd_ BK310
          replace BK311 := bd_ BK311
          replace HB := be_ HB
          have p327 : 0 ≤ (x18_6 : Int) := od_
          have q327 : x18_6 < (l1_3.length : Int) := od_
          obtain ⟨ad327, e327, hx327_0, hx327_1, hx327_2, hx327_3⟩ := at_T72 HR1_3.out x18_6 p327 q327
          have hw327_3 := hx327_3
          have hw327_2 := hx327_2
          have hw327_1 := hx327_1
          have hw327_0 := hx327_0
          cases e327
          replace hx327_0 := clTr HB.out hx327_0
          replace hx327_1 := clTr HB.out hx327_1
          replace hx327_2 := clTr HB.out hx327_2
          replace hx327_3 := clTr HB.out hx327_3
          replace p327 := eq_true p327
          replace q327 := eq_true q327
          refine start_ (n := 8) (S := fun w' => w'.cell? ⟨gb309, 0, none⟩ = some (.int .i64 a1_0) ∧ w'.cell? ⟨gb309, 1, none⟩ = some (.int .i64 a1_1) ∧ w'.cell? ⟨gb309, 2, none⟩ = some (.int .i64 a1_2) ∧ w'.cell? ⟨gb309, 3, none⟩ = some (.slice (some ad327) l1_3.length c1_3) ∧ w'.cell? ⟨gb310, 0, none⟩ = some (.int .i64 a2_0) ∧ w'.cell? ⟨gb310, 1, none⟩ = some (.int .i64 a2_1) ∧ w'.cell? ⟨gb310, 2, none⟩ = some (.int .i64 a2_2) ∧ w'.cell? (ad327.add ((x18_6).toNat * 4)) = some (.int .i64 ((rd_T72 l1_3 x18_6).f0.f0)) ∧ w'.cell? ⟨(ad327.add ((x18_6).toNat * 4)).block, (ad327.add ((x18_6).toNat * 4)).off + 1, none⟩ = some (.int .i64 ((rd_T72 l1_3 x18_6).f0.f1)) ∧ w'.cell? ⟨(ad327.add ((x18_6).toNat * 4)).block, (ad327.add ((x18_6).toNat * 4)).off + 2, none⟩ = some (.int .i64 ((rd_T72 l1_3 x18_6).f0.f2)) ∧ w'.cell? ⟨(ad327.add ((x18_6).toNat * 4)).block, (ad327.add ((x18_6).toNat * 4)).off + 3, none⟩ = some (.int .i64 ((rd_T72 l1_3 x18_6).f1))) (ds := []) (bv_ 8 0) (by kernel_rfl) rfl rfl ⟨cz_ BK309 0, cz_ BK309 1, cz_ BK309 2, cz_ BK309 3, cz_ BK310 0, cz_ BK310 1, cz_ BK310 2, (clTr HB.out hw327_0 :), (clTr HB.out hw327_1 :), (clTr HB.out hw327_2 :), (clTr HB.out hw327_3 :)⟩ (fun hHeld => ?_); refine with_tabW spec_RefineAt.tab23 spec_RefineAt.bits23 (fun HT_ HW_ => ?_)
          generalize wr.drew = w68 at HO_15 HO_17 BK309 BK310 BK311 HB hx327_0 hx327_1 hx327_2 hx327_3 hHeld ⊢
          refine px_ HT_ 0 95 1 ?_
          refine px_ HT_ 2 97 5 ?_
          refine ta_ HT_ HW_ 1 (some 96) (bv_ 8 7) hHeld ?_ (hy := by rintro w' ⟨s0, s1, s2, s3, s4, s5, s6, s7, s8, s9, s10⟩; go_simp; with_reducible rfl)
          refine px_ HT_ 3 98 15 ?_
          refine px_ HT_ 4 99 31 ?_
          refine ta_ HT_ HW_ 5 (some 100) (bv_ 8 63) hHeld ?_ (hy := by rintro w' ⟨s0, s1, s2, s3, s4, s5, s6, s7, s8, s9, s10⟩; go_simp; with_reducible rfl)
          refine ta_ HT_ HW_ 6 (some 101) (bv_ 8 127) hHeld ?_ (hy := by rintro w' ⟨s0, s1, s2, s3, s4, s5, s6, s7, s8, s9, s10⟩; go_simp; with_reducible rfl)
          refine px_ HT_ 7 102 255 ?_
          refine done_ (done_of HT_.out (by kernel_rfl)) ?_
          try go_wp2
          go_roundg k6
          case measure => have := HJ5.out; have := HJ16.out; have := HK3.out; have := HJ18.out; have := HJ27.out; have := HK6.out; omega
          case rel => exact ⟨(x17_6), (wrap64 (x18_6 + 1)), en_, H', ⟨by have := HJ5.out; have := HJ16.out; have := HK3.out; have := HJ18.out; have := HJ27.out; have := HK6.out; omega⟩, ⟨by (with_reducible repeat (first | apply Kd.R_alloc | apply Kd.R_drewN | apply Kd.R_drew)); exact HO_15.out⟩, ⟨by (with_reducible repeat (first | apply Kd.R_alloc | apply Kd.R_drewN | apply Kd.R_drew)); exact HO_17.out⟩, bl_ BK309, bl_ BK310, bl_ BK311, bw_ HB⟩
         have H' := Aside0.mk H
         clear H
         have hnb69 := NB309_310.out
         have hnc69 := NB310_309.out
         have hnb70 := NB309_311.out
         have hnc70 := NB311_309.out
         obtain ⟨hcz71_0, hcz71_1, hcz71_2, hcz71_3, hfz71_0, hfz71_1, hfz71_2, hfz71_3⟩ := ch4_ BK309
         go_wp2
         go_loopg [17, 19] k6 (fun kq v17 v19 w' => ∃ (x17_7 : List (S72)) (x19_7 : Int), v19 = .int .i64 x19_7 ∧ Aside0 (spec_RefineAt.l2 kq a0 l3 t320 x17_7 x19_7 a1_0 a1_1 a1_2 l1_3 = some (r1, r2, r3, r4, r5)) ∧ Aside0 (kq ≤ k6) ∧ Aside0 (Kd.R k31 31 w' w.heap.size (fun k_ => k_ ≠ gb310) v321 t320) ∧ Aside0 (Kd.R k72 72 w' w.heap.size (fun _ => True) v17 x17_7) ∧ Aside0 (w'.heap[gb309]? = some (.cells #[.int .i64 a1_0, .int .i64 a1_1, .int .i64 a1_2, (.slice A1_3 l1_3.length c1_3)] 34 (0, 0))) ∧ Aside0 (w'.heap[gb310]? = some (.cells #[.int .i64 a2_0, .int .i64 a2_1, .int .i64 a2_2] 31 (0, 0))) ∧ Aside0 (w'.heap[gb311]? = some (.cells #[.int .i64 0, .int .i64 0, .int .i64 0, (.slice none 0 0)] 34 (0, 0))) ∧ Aside0 (Below w.heap.size w w'))
         case atStart => exact ⟨(x17_6), (0), en_, H', ⟨Nat.le_refl _⟩, ⟨by (with_reducible repeat (first | apply Kd.R_alloc | apply Kd.R_drewN | apply Kd.R_drew)); exact HO_15.out⟩, ⟨by (with_reducible repeat (first | apply Kd.R_alloc | apply Kd.R_drewN | apply Kd.R_drew)); exact HO_17.out⟩, bl_ BK309, bl_ BK310, bl_ BK311, bw_ HB⟩
         clear H'
         try clear c3
         try clear c16
         try clear c16b0
         try clear c16b1
         try clear c20b0
         try clear c22b0
         try clear c23b0
         try clear c26
         try clear c26b0
         try clear c26b1
         try clear c55b0
         try clear c56b0
         try clear c57
         try clear c57b0
         try clear c58
         try clear hcz12_0 hcz12_1 hcz12_2 hcz12_3
         try clear hcz14_0 hcz14_1 hcz14_2
         try clear hcz31_0 hcz31_1 hcz31_2 hcz31_3
         try clear hcz33_0 hcz33_1 hcz33_2
         try clear hcz39_0 hcz39_1 hcz39_2 hcz39_3
         try clear hcz41_0 hcz41_1 hcz41_2
         try clear hcz46_0 hcz46_1 hcz46_2 hcz46_3
         try clear hcz51_0 hcz51_1 hcz51_2
         try clear hcz61_0 hcz61_1 hcz61_2 hcz61_3
         try clear hcz63_0 hcz63_1 hcz63_2 hcz63_3
         try clear hcz67_0 hcz67_1 hcz67_2 hcz67_3
         try clear hcz71_0 hcz71_1 hcz71_2 hcz71_3
         try clear hfz12_0 hfz12_1 hfz12_2 hfz12_3
         try clear hfz14_0 hfz14_1 hfz14_2
         try clear hfz31_0 hfz31_1 hfz31_2 hfz31_3
         try clear hfz33_0 hfz33_1 hfz33_2
         try clear hfz39_0 hfz39_1 hfz39_2 hfz39_3
         try clear hfz41_0 hfz41_1 hfz41_2
         try clear hfz46_0 hfz46_1 hfz46_2 hfz46_3
         try clear hfz51_0 hfz51_1 hfz51_2
         try clear hfz61_0 hfz61_1 hfz61_2 hfz61_3
         try clear hfz63_0 hfz63_1 hfz63_2 hfz63_3
         try clear hfz67_0 hfz67_1 hfz67_2 hfz67_3
         try clear hfz71_0 hfz71_1 hfz71_2 hfz71_3
         try clear hx313_0
         try clear hx315_0
         try clear hx316_0
         try clear hx327_0
         try clear hx327_1
         try clear hx327_2
         try clear hx327_3
         try clear hx328_0
         try clear hx328_1
         try clear hx328_2
         try clear hx328_3
         try clear p313
         try clear p315
         try clear p316
         try clear p327
         try clear p328
         try clear q313
         try clear q315
         try clear q316
         try clear q327
         try clear q328
         obtain ⟨x17_7, x19_7, rfl, HA, HK7, HO_15, HO_17, BK309, BK310, BK311, HB⟩ := hrel
         cases gk with
         | zero => exact absurd HA.out (by simp [spec_RefineAt.l2])
         | succ k7 =>
          have H := HA.out
          clear HA
          simp only [spec_RefineAt.l2] at H
          replace H := il_ H
          rcases H with ⟨c72b0, H⟩ | ⟨c72b0, H⟩
          ·replace H := imn_ H
           obtain ⟨c73b0, H⟩ := H
           replace H := iln_ H
           obtain ⟨c74b0, H⟩ := H
           by_cases c75 : x17_7.length < 4398046511104
           ·rw [if_pos c75] at H
            have LMc75 := Aside0.mk c75
            clear c75
            obtain ⟨y334, hy334⟩ : ∃ y_ : List (S72), y_ = (x17_7 ++ [(⟨(⟨(rd_T31 t320 x19_7).f0, (rd_T31 t320 x19_7).f1, (rd_T31 t320 x19_7).f2⟩ : S31), rd l3 x19_7⟩ : S72)]) := ⟨_, rfl⟩
            replace H : (spec_RefineAt.l2 k7 a0 l3 t320 y334 (wrap64 (x19_7 + 1)) a1_0 a1_1 a1_2 l1_3) = some (r1, r2, r3, r4, r5) := by first | (rw [hy334]; with_reducible exact H) | (have H2_ := (Option.bind_some _ _).symm.trans H; rw [hy334]; with_reducible exact H2_) | (have H2_ := (Option.bind_some _ _).symm.trans H; with_reducible exact H2_) | with_reducible exact H | (rw [hy334]; exact H) | exact H
            have Ny334 := Aside0.mk hy334
            clear hy334
            have H' := Aside0.mk H
            clear H
            obtain ⟨Ao76, co76, eo76⟩ := Kd.R_slice HO_15.out
            subst eo76
            try go_wp2
            replace HO_15 := Aside0.mk (Kd.R_drew HO_15.out)
            replace HO_17 := Aside0.mk (Kd.R_drew HO_17.out)
            replace BK309 := bd_ BK309
            replace BK310 := bd_ BK310
            replace BK311 := bd_ BK311
            replace HB := be_ HB
            have p332 : 0 ≤ (x19_7 : Int) := od_
            have q332 : x19_7 < (t320.length : Int) := od_
            obtain ⟨ad332, e332, hx332_0, hx332_1, hx332_2⟩ := at_T31 (Kd.R_reads' HO_15.out).2.2 x19_7 p332 q332
            cases e332
            replace p332 := eq_true p332
            replace q332 := eq_true q332
            have p333 : 0 ≤ (x19_7 : Int) := od_
            have q333 : x19_7 < (l3.length : Int) := od_
            obtain ⟨ad333, e333, hx333_0⟩ := Kd.at_int HR3.out x19_7 p333 q333
            have hw333_0 := hx333_0
            cases e333
            replace hx333_0 := clTr HB.out hx333_0
            replace p333 := eq_true p333
            replace q333 := eq_true q333
            refine start_ (n := 13) (S := fun w' => w'.cell? (ad332.add ((x19_7).toNat * 3)) = some (.int .i64 ((rd_T31 t320 x19_7).f0)) ∧ w'.cell? ⟨(ad332.add ((x19_7).toNat * 3)).block, (ad332.add ((x19_7).toNat * 3)).off + 1, none⟩ = some (.int .i64 ((rd_T31 t320 x19_7).f1)) ∧ w'.cell? ⟨(ad332.add ((x19_7).toNat * 3)).block, (ad332.add ((x19_7).toNat * 3)).off + 2, none⟩ = some (.int .i64 ((rd_T31 t320 x19_7).f2)) ∧ w'.cell? (ad333.add (x19_7).toNat) = some (.int .i64 (rd l3 x19_7))) (ds := [10, 11]) (bv_ 13 0) (by kernel_rfl) rfl rfl ⟨hx332_0, hx332_1, hx332_2, (clTr HB.out hw333_0 :)⟩ (fun hHeld => ?_); refine with_tabW spec_RefineAt.tab28 spec_RefineAt.bits28 (fun HT_ HW_ => ?_)
            generalize wr.drew = w77 at HO_15 HO_17 BK309 BK310 BK311 HB hx332_0 hx332_1 hx332_2 hx333_0 hHeld ⊢
            refine px_ HT_ 0 117 1 ?_
            refine px_ HT_ 1 118 3 ?_
            refine px_ HT_ 2 119 7 ?_
            refine px_ HT_ 3 120 15 ?_
            refine px_ HT_ 5 122 47 ?_
            refine px_ HT_ 6 123 111 ?_
            refine px_ HT_ 7 124 239 ?_
            refine ta_ HT_ HW_ 4 (some 121) (bv_ 13 255) hHeld ?_ (hy := by rintro w' ⟨s0, s1, s2, s3⟩; go_simp; with_reducible rfl)
            refine ta_ HT_ HW_ 8 (some 125) (bv_ 13 511) hHeld ?_ (hy := by rintro w' ⟨s0, s1, s2, s3⟩; go_simp; with_reducible rfl)
            refine px_ HT_ 9 126 1023 ?_
            refine last_ (i := 10) (N := some 127) (bv_ 13 2047) rfl rfl (one_of HT_.out (by kernel_rfl)) (by decide) (fun K hK => ?_)
            refine value_ (w1 := ?_) (v := ?_) (by rfl) rfl ?_ ?_
            rotate_left 2
            ·go_simp
             constructor
             ·rfl
             rfl
            refine hK.out _ _ ?_
            clear hK K
            refine nm_ (some 127) ?_
            refine last_ (i := 11) (N := some 128) (bv_ 13 4095) rfl rfl (one_of HT_.out (by kernel_rfl)) (by decide) (fun K hK => ?_)
            refine Kd.R_append_step k72 (w0 := w) w.heap.size (by rfl) (.tmp 117) (.tmp 127) 32 72 (.agg #[(.int .i64 0), (.int .i64 0), (.int .i64 0), (.int .i64 0)]) 32 rfl Try.underlying32 info72 rfl (by decide) (by omega) u17 x17_7 (⟨(⟨(rd_T31 t320 x19_7).f0, (rd_T31 t320 x19_7).f1, (rd_T31 t320 x19_7).f2⟩ : S31), rd l3 x19_7⟩ : S72) [.int .i64 ((rd_T31 t320 x19_7).f0), .int .i64 ((rd_T31 t320 x19_7).f1), .int .i64 ((rd_T31 t320 x19_7).f2), .int .i64 (rd l3 x19_7)] (fun _ => True) (fun _ => False) rfl rfl ?aP (fun _ hk => hk.elim) ?aF ?aO ?aB ?aS ?aL ?_
            (case aP => exact k72_mkM _ _ _ (⟨(⟨(rd_T31 t320 x19_7).f0, (rd_T31 t320 x19_7).f1, (rd_T31 t320 x19_7).f2⟩ : S31), rd l3 x19_7⟩ : S72))
            (case aB => exact (bw_ HB).out)
            (case aF => exact (fun _ _ => trivial))
            (case aO => exact (ra_ HO_17.out))
            (case aS => exact (below_size (bw_ HB).out))
            (case aL => have := LMc75.out; omega)
            intro v335 w78 ho hb hg hat
            rw [← Ny334.out] at ho
            have n0_ := Aside0.mk (Kd.R_over' (ra_ HO_15.out) (Kd.R_typed (ra_ HO_17.out)) (by decide) hg)
            have n1_ := Aside0.mk (blk_grown (g := gb309) (o := .cells #[.int .i64 a1_0, .int .i64 a1_1, .int .i64 a1_2, .slice A1_3 l1_3.length c1_3] 34 (0, 0)) (bl_ BK309).out hg (Kd.R_ne HO_17.out BK309.out (by decide)))
            have n2_ := Aside0.mk (blk_grown (g := gb310) (o := .cells #[.int .i64 a2_0, .int .i64 a2_1, .int .i64 a2_2] 31 (0, 0)) (bl_ BK310).out hg (Kd.R_ne HO_17.out BK310.out (by decide)))
            have n3_ := Aside0.mk (blk_grown (g := gb311) (o := .cells #[.int .i64 0, .int .i64 0, .int .i64 0, .slice none 0 0] 34 (0, 0)) (bl_ BK311).out hg (Kd.R_ne HO_17.out BK311.out (by decide)))
            have n4_ := Aside0.mk (hb)
            have n5_ := Aside0.mk (ho)
            clear HO_15
            clear BK309
            clear BK310
            clear BK311
            clear HB
            clear HO_17
            have HO_15 := n0_
            have BK309 := n1_
            have BK310 := n2_
            have BK311 := n3_
            have HB := n4_
            have HO336 := n5_
            clear n0_ n1_ n2_ n3_ n4_ n5_
            clear ho hb hg hat
            refine hK.out _ _ ?_
            clear hK K
            refine nm_ (some 128) ?_
            refine px_ HT_ 12 17 8191 ?_
            refine done_ (done_of HT_.out (by kernel_rfl)) ?_
            try go_wp2
            go_roundg k7
            case measure => have := HJ5.out; have := HJ16.out; have := HK3.out; have := HJ18.out; have := HJ27.out; have := HK6.out; have := HK7.out; omega
            case rel => exact ⟨(y334), (wrap64 (x19_7 + 1)), en_, H', ⟨by have := HJ5.out; have := HJ16.out; have := HK3.out; have := HJ18.out; have := HJ27.out; have := HK6.out; have := HK7.out; omega⟩, ⟨by (with_reducible repeat (first | apply Kd.R_alloc | apply Kd.R_drewN | apply Kd.R_drew)); exact HO_15.out⟩, ⟨by (with_reducible repeat (first | apply Kd.R_alloc | apply Kd.R_drewN | apply Kd.R_drew)); exact HO336.out⟩, bl_ BK309, bl_ BK310, bl_ BK311, bw_ HB⟩
           rw [if_neg c75] at H
           exact absurd H (by simp)
          replace H := oc_ H
          obtain ⟨⟨t337, t338, t339, t340, t343⟩, A79, H⟩ := H
          simp only [Option.some.injEq, Prod.mk.injEq] at H
          obtain ⟨rfl, rfl, rfl, rfl, rfl⟩ := H
          obtain ⟨Ao80, co80, eo80⟩ := Kd.R_slice HO_15.out
          subst eo80
          have hnb81 := NB309_310.out
          have hnc81 := NB310_309.out
          have hnb82 := NB309_311.out
          have hnc82 := NB311_309.out
          obtain ⟨hcz83_0, hcz83_1, hcz83_2, hcz83_3, hfz83_0, hfz83_1, hfz83_2, hfz83_3⟩ := ch4_ BK309
          obtain ⟨Ao84, co84, eo84⟩ := Kd.R_slice HO_17.out
          subst eo84
          go_wp2_with (first | ((refine gc_ 43 ?_); refine ge_ 134 Try.func43 #[.int .i64 a0, .agg #[.int .i64 a1_0, .int .i64 a1_1, .int .i64 a1_2], .slice Ao84 x17_7.length co84] ?_; (with_reducible refine (spec_l08Told.calls k7 a0 a1_0 a1_1 a1_2 _ _ x17_7 t337 t338 t339 t340 t343 _ ?side1 ?side2 A79.out).mono ?_); (case side1 => exact ca_ (Kd.R_reads' HO_17.out).2.2); (case side2 => exact (Kd.R_reads' HO_17.out).2.1); rintro e w85 ⟨v341, rfl, ho0, hb⟩; refine ⟨_, rfl, ?_⟩; have HO342 := Aside0.mk (Kd.R_lower (Kd.R_new' ho0 (Kd.R_lt (ra_ HO_17.out))) (below_size (bw_ HB).out)); replace HO_15 := rb_ HO_15 hb; replace HO_17 := Aside0.mk (Kd.R_elder' (ra_ HO_17.out) (Kd.R_base ho0) hb); replace BK309 := bb_ BK309 hb; replace BK310 := bb_ BK310 hb; replace BK311 := bb_ BK311 hb; replace HB := bt_ HB hb; (try clear hb); (try clear ho0)) | ((refine gd_ 20 ?_); (try (refine gate_guard (by rfl) ?_; dsimp only)); refine bx_ 20 #[.int .i64 0, .int .i64 0, .int .i64 0, .slice none 0 0] 34 ?_; intro gb344 hg w86 BK344 hb; have GW344 := bs_ HB hg; have NB309_344 := bm_ BK309 hg; have NB344_309 := bn_ BK309 hg; have NB310_344 := bm_ BK310 hg; have NB344_310 := bn_ BK310 hg; have NB311_344 := bm_ BK311 hg; have NB344_311 := bn_ BK311 hg; replace HO_15 := rb_ HO_15 hb; replace HO_17 := rb_ HO_17 hb; replace HO342 := rb_ HO342 hb; replace BK309 := bb_ BK309 hb; replace BK310 := bb_ BK310 hb; replace BK311 := bb_ BK311 hb; replace HB := bt_ HB hb; clear hb hg; have hnb87 := NB344_309.out; have hnc87 := NB309_344.out; have hnb88 := NB344_310.out; have hnc88 := NB310_344.out; have hnb89 := NB344_311.out; have hnc89 := NB311_344.out; obtain ⟨hcz90_0, hcz90_1, hcz90_2, hcz90_3, hfz90_0, hfz90_1, hfz90_2, hfz90_3⟩ := ch4_ BK344; obtain ⟨Ao91, co91, eo91⟩ := Kd.R_slice HO342.out; subst eo91; have hnb92 := NB311_310.out; have hnc92 := NB310_311.out; obtain ⟨hcz93_0, hcz93_1, hcz93_2, hcz93_3, hfz93_0, hfz93_1, hfz93_2, hfz93_3⟩ := ch4_ BK311))
          refine bodyPost_ret (results_ct rfl _ _ gb311 34 #[.int .i64 t337, .int .i64 t338, .int .i64 t339, .slice Ao91 t340.length co91] (0, 0) _ rfl (bp_ BK311).out Try.underlying34 rfl (by kernel_rfl)) rfl ?_
          exact ⟨_, es_, by (with_reducible repeat (first | apply Kd.R_alloc | apply Kd.R_drewN | apply Kd.R_drew)); exact Kd.R_mono (Kd.R_far (p := ⟨gb311, 3, none⟩) (Kd.R_far (p := ⟨gb311, 2, none⟩) (Kd.R_far (p := ⟨gb311, 1, none⟩) (Kd.R_far (p := ⟨gb311, 0, none⟩) (Kd.R_far (p := ⟨gb344, 3, none⟩) (Kd.R_far (p := ⟨gb344, 2, none⟩) (Kd.R_far (p := ⟨gb344, 1, none⟩) (Kd.R_far (p := ⟨gb344, 0, none⟩) (Kd.R_types (Kd.R_types HO342.out BK344.out (by decide)) BK311.out (by decide)) (fun _ hk => hk.1.2) (.int .i64 t337)) (fun _ hk => hk.1.2) (.int .i64 t338)) (fun _ hk => hk.1.2) (.int .i64 t339)) (fun _ hk => hk.1.2) (.slice Ao91 t340.length co91)) (fun _ hk => hk.2) (.int .i64 t337)) (fun _ hk => hk.2) (.int .i64 t338)) (fun _ hk => hk.2) (.int .i64 t339)) (fun _ hk => hk.2) (.slice Ao91 t340.length co91)) (fun _ hk => trivial), (bw_ HB).out⟩
       simp only [Option.some.injEq, Prod.mk.injEq] at H
       obtain ⟨rfl, rfl, rfl, rfl, rfl⟩ := H
       have hnb94 := NB310_309.out
       have hnc94 := NB309_310.out
       have hnb95 := NB310_311.out
       have hnc95 := NB311_310.out
       obtain ⟨hcz96_0, hcz96_1, hcz96_2, hfz96_0, hfz96_1, hfz96_2⟩ := ch3_ BK310
       go_wp2_with (first | ((refine gc_ 55 ?_); refine ge_ 81 Try.func55 #[.int .i64 a0, .agg #[.int .i64 a2_0, .int .i64 a2_1, .int .i64 a2_2]] ?_; (with_reducible refine (spec_l02Children.calls kj27 a0 a2_0 a2_1 a2_2 t320 false _ A47.out).mono ?_); rintro e w97 ⟨v321, rfl, ho0, hb⟩; refine ⟨_, rfl, ?_⟩; have HO322 := Aside0.mk (Kd.R_lower (Kd.R_newB ho0 (g := gb310) (o := .cells #[.int .i64 a2_0, .int .i64 a2_1, .int .i64 a2_2] 31 (0, 0)) (bl_ BK310).out) (below_size (bw_ HB).out)); replace BK309 := bb_ BK309 hb; replace BK310 := bb_ BK310 hb; replace BK311 := bb_ BK311 hb; replace HB := bt_ HB hb; (try clear hb); (try clear ho0); have hnb98 := NB311_309.out; have hnc98 := NB309_311.out; obtain ⟨hcz99_0, hcz99_1, hcz99_2, hcz99_3, hfz99_0, hfz99_1, hfz99_2, hfz99_3⟩ := ch4_ BK311))
       refine bodyPost_ret (results_ct rfl _ _ gb311 34 #[.int .i64 0, .int .i64 0, .int .i64 0, .slice none 0 0] (0, 0) _ rfl (bp_ BK311).out Try.underlying34 rfl (by kernel_rfl)) rfl ?_
       exact ⟨_, es_, by first | exact Kd.R_nil _ _ _ _ _ | exact Kd.N_nil _ _ _ _ _ | exact Kd.V_nil _ _ _ _ _ | exact Kd.Q_nil _ _ _ _ _ | exact Kd.S_nil _ _ _ _ _, (bw_ HB).out⟩
     simp only [Option.some.injEq, Prod.mk.injEq] at H
     obtain ⟨rfl, rfl, rfl, rfl, rfl⟩ := H
     have hnb100 := NB311_309.out
     have hnc100 := NB309_311.out
     have hnb101 := NB311_310.out
     have hnc101 := NB310_311.out
     obtain ⟨hcz102_0, hcz102_1, hcz102_2, hcz102_3, hfz102_0, hfz102_1, hfz102_2, hfz102_3⟩ := ch4_ BK311
     go_wp2
     refine bodyPost_ret (results_ct rfl _ _ gb311 34 #[.int .i64 0, .int .i64 0, .int .i64 0, .slice none 0 0] (0, 0) _ rfl (bp_ BK311).out Try.underlying34 rfl (by kernel_rfl)) rfl ?_
     exact ⟨_, es_, by first | exact Kd.R_nil _ _ _ _ _ | exact Kd.N_nil _ _ _ _ _ | exact Kd.V_nil _ _ _ _ _ | exact Kd.Q_nil _ _ _ _ _ | exact Kd.S_nil _ _ _ _ _, (bw_ HB).out⟩
end Go.Proofs.Ytdfcoebadjhjlaa.QH
