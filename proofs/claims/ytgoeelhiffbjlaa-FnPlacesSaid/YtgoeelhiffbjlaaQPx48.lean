import Derived.Test.YtgoeelhiffbjlaaQPx9
import Derived.Test.YtgoeelhiffbjlaaQPx47
namespace Go.Proofs.Ytgoeelhiffbjlaa.QP
open Go.RowKit Go.Proofs.YtgoeelhiffbjlaaW.PrintWords Go.Proofs.YtgoeelhiffbjlaaW.PrintLast Go.Proofs.YtgoeelhiffbjlaaW.PrintMore
attribute [local go_sem] isSome_setCell max2_int min2_int max_two min_two max_three min_three max_four min_four
set_option linter.unusedVariables false
set_option linter.unusedSimpArgs false

attribute [local go_sem high] eqA25
/-! ### spec_l07Next: function 126 -/
mutual
def spec_l07Next.j0 : Nat → Int → Bool → Int → Bool → Bool → Int → Int → Int → Int → Int → Int → Int → Int → Int → Option (Int × Int × Int × Bool)
 | 0, _, _, _, _, _, _, _, _, _, _, _, _, _, _ => none
 | k + 1, x0, x3, x4, x13, x33, x399000, x399001, x399002, x400000, x400001, x400002, x406000, x406001, x406002 => if x33 = true then (if x4 = 0 then (some (x406000, x406001, x406002, x13)) else (spec_l07Next.j1 k x0 x3 (wrap64 (x4 - 1)) x399000 x399001 x399002 x400000 x400001 x400002)) else (spec_l07Next.j1 k x0 x3 x4 x399000 x399001 x399002 x400000 x400001 x400002)
def spec_l07Next.j1 : Nat → Int → Bool → Int → Int → Int → Int → Int → Int → Int → Option (Int × Int × Int × Bool)
 | 0, _, _, _, _, _, _, _, _, _ => none
 | k + 1, x0, x3, x4, x399000, x399001, x399002, x400000, x400001, x400002 => spec_l07Next.l0 k x0 x3 x4 0 x399000 x399001 x399002 x400000 x400001 x400002
def spec_l07Next.l0 : Nat → Int → Bool → Int → Int → Int → Int → Int → Int → Int → Int → Option (Int × Int × Int × Bool)
 | 0, _, _, _, _, _, _, _, _, _, _ => none
 | k + 1, x0, x3, x4, x14, x399000, x399001, x399002, x400000, x400001, x400002 => if x14 < x0 then ((spec_l01Child.f k x0 x399000 x399001 x399002 x14).bind fun bt406 => (if x3 = true then (if bt406.2.2.2 = true then (spec_l07Next.j3 k x0 x3 x4 x14 bt406.2.2.2 (bt406.1 == x400000 && (bt406.2.1 == x400001 && (bt406.2.2.1 == x400002))) x399000 x399001 x399002 x400000 x400001 x400002 bt406.1 bt406.2.1 bt406.2.2.1) else (spec_l07Next.j3 k x0 x3 x4 x14 bt406.2.2.2 false x399000 x399001 x399002 x400000 x400001 x400002 bt406.1 bt406.2.1 bt406.2.2.1)) else (spec_l07Next.j3 k x0 x3 x4 x14 bt406.2.2.2 false x399000 x399001 x399002 x400000 x400001 x400002 bt406.1 bt406.2.1 bt406.2.2.1))) else (some (0, 0, 0, false))
def spec_l07Next.j3 : Nat → Int → Bool → Int → Int → Bool → Bool → Int → Int → Int → Int → Int → Int → Int → Int → Int → Option (Int × Int × Int × Bool)
 | 0, _, _, _, _, _, _, _, _, _, _, _, _, _, _, _ => none
 | k + 1, x0, x3, x4, x14, x16, x60, x399000, x399001, x399002, x400000, x400001, x400002, x411000, x411001, x411002 => if x60 = true then (spec_l07Next.l0 k x0 x3 x4 (wrap64 (x14 + 1)) x399000 x399001 x399002 x400000 x400001 x400002) else (if x4 = 0 then (some (x411000, x411001, x411002, x16)) else (spec_l07Next.l0 k x0 x3 (wrap64 (x4 - 1)) (wrap64 (x14 + 1)) x399000 x399001 x399002 x400000 x400001 x400002))
end
def spec_l07Next.f (k : Nat) (a0 a1_0 a1_1 a1_2 a2_0 a2_1 a2_2 : Int) (a3 : Bool) (a4 : Int) : Option (Int × Int × Int × Bool) := (spec_l01Parent.f k a0 a1_0 a1_1 a1_2).bind fun bt401 => (if a3 = true then (if bt401.2.2.2 = true then (spec_l07Next.j0 k a0 a3 a4 bt401.2.2.2 (!(bt401.1 == a2_0) || (!(bt401.2.1 == a2_1) || (!(bt401.2.2.1 == a2_2)))) a1_0 a1_1 a1_2 a2_0 a2_1 a2_2 bt401.1 bt401.2.1 bt401.2.2.1) else (spec_l07Next.j0 k a0 a3 a4 bt401.2.2.2 true a1_0 a1_1 a1_2 a2_0 a2_1 a2_2 bt401.1 bt401.2.1 bt401.2.2.1)) else (spec_l07Next.j0 k a0 a3 a4 bt401.2.2.2 true a1_0 a1_1 a1_2 a2_0 a2_1 a2_2 bt401.1 bt401.2.1 bt401.2.2.1))
set_option maxHeartbeats 8000000 in
set_option maxRecDepth 100000 in
theorem spec_l07Next.calls (k : Nat) (a0 a1_0 a1_1 a1_2 a2_0 a2_1 a2_2 : Int) (a3 : Bool) (a4 r1 r2 r3 : Int) (r4 : Bool) (w : World) (h : spec_l07Next.f k a0 a1_0 a1_1 a1_2 a2_0 a2_1 a2_2 a3 a4 = some (r1, r2, r3, r4)) :
  Calls Try.prog 126 #[.int .i64 a0, .agg #[.int .i64 a1_0, .int .i64 a1_1, .int .i64 a1_2], .agg #[.int .i64 a2_0, .int .i64 a2_1, .int .i64 a2_2], .bool a3, .int .i64 a4] w fun e w' => e = .returned (.tuple #[.agg #[.int .i64 r1, .int .i64 r2, .int .i64 r3], .bool r4]) ∧ Below w.heap.size w w' := by
 have hu25 := Try.underlying25
 have HB := Aside0.mk (Below.refl w.heap.size w)
 unfold spec_l07Next.f at h
 have H := h
 clear h
 replace H := oc_ H
 obtain ⟨⟨t401, t402, t403, t404⟩, A6, H⟩ := H
 have HC7 := Aside0.mk H
 clear H
 go_enter Try.func126, Try.ntmps126
 go_upto_region 2 with (first | ((refine gd_ 6 ?_); refine by_ 6 #[.int .i64 a1_0, .int .i64 a1_1, .int .i64 a1_2] 25 HB ?_; intro gb398 hg w8 BK398 hb GW398 HB_; replace HB := HB_; clear hb hg) | ((refine gd_ 7 ?_); refine by_ 7 #[.int .i64 a2_0, .int .i64 a2_1, .int .i64 a2_2] 25 HB ?_; intro gb399 hg w9 BK399 hb GW399 HB_; have NB398_399 := bm_ BK398 hg; have NB399_398 := bn_ BK398 hg; replace BK398 := bb_ BK398 hb; replace HB := HB_; clear hb hg) | ((refine gd_ 10 ?_); refine by_ 10 #[.int .i64 0, .int .i64 0, .int .i64 0] 25 HB ?_; intro gb400 hg w10 BK400 hb GW400 HB_; have NB398_400 := bm_ BK398 hg; have NB400_398 := bn_ BK398 hg; have NB399_400 := bm_ BK399 hg; have NB400_399 := bn_ BK399 hg; replace BK398 := bb_ BK398 hb; replace BK399 := bb_ BK399 hb; replace HB := HB_; clear hb hg; have hnb11 := NB398_399.out; have hnc11 := NB399_398.out; have hnb12 := NB398_400.out; have hnc12 := NB400_398.out; obtain ⟨hcz13_0, hcz13_1, hcz13_2, hfz13_0, hfz13_1, hfz13_2⟩ := ch3_ BK398) | ((refine gc_ 152 ?_); refine ge_ 20 Try.func152 #[.int .i64 a0, .agg #[.int .i64 a1_0, .int .i64 a1_1, .int .i64 a1_2]] ?_; (with_reducible refine (spec_l01Parent.calls k a0 a1_0 a1_1 a1_2 t401 t402 t403 t404 _ A6.out).mono ?_); rintro e w14 ⟨rfl, hb⟩; refine ⟨_, rfl, ?_⟩; replace BK398 := bb_ BK398 hb; replace BK399 := bb_ BK399 hb; replace BK400 := bb_ BK400 hb; replace HB := bt_ HB hb; (try clear hb)) | ((refine gd_ 12 ?_); refine by_ 12 #[.int .i64 0, .int .i64 0, .int .i64 0] 25 HB ?_; intro gb405 hg w15 BK405 hb GW405 HB_; have NB398_405 := bm_ BK398 hg; have NB405_398 := bn_ BK398 hg; have NB399_405 := bm_ BK399 hg; have NB405_399 := bn_ BK399 hg; have NB400_405 := bm_ BK400 hg; have NB405_400 := bn_ BK400 hg; replace BK398 := bb_ BK398 hb; replace BK399 := bb_ BK399 hb; replace BK400 := bb_ BK400 hb; replace HB := HB_; clear hb hg; have hnb16 := NB405_398.out; have hnc16 := NB398_405.out; have hnb17 := NB405_399.out; have hnc17 := NB399_405.out; have hnb18 := NB405_400.out; have hnc18 := NB400_405.out; obtain ⟨hcz19_0, hcz19_1, hcz19_2, hfz19_0, hfz19_1, hfz19_2⟩ := ch3_ BK405))
 (try simp only [Act.put, lstS, lstZ, lstC])
 go_cut [33] (fun v33 wc => ∃ (kq : Nat) (x33_6 : Bool), v33 = .bool x33_6 ∧ Aside0 (spec_l07Next.j0 kq a0 a3 a4 t404 x33_6 a1_0 a1_1 a1_2 a2_0 a2_1 a2_2 t401 t402 t403 = some (r1, r2, r3, r4)) ∧ Aside0 (kq ≤ k) ∧ Aside0 (wc.heap[gb398]? = some (.cells #[.int .i64 a1_0, .int .i64 a1_1, .int .i64 a1_2] 25 (0, 0))) ∧ Aside0 (wc.heap[gb399]? = some (.cells #[.int .i64 a2_0, .int .i64 a2_1, .int .i64 a2_2] 25 (0, 0))) ∧ Aside0 (wc.heap[gb400]? = some (.cells #[.int .i64 0, .int .i64 0, .int .i64 0] 25 (0, 0))) ∧ Aside0 (wc.heap[gb405]? = some (.cells #[.int .i64 t401, .int .i64 t402, .int .i64 t403] 25 (0, 0))) ∧ Aside0 (Below w.heap.size w wc))
 case first =>
  have H := HC7.out
  clear HC7
  replace H := ib_ H
  rcases H with ⟨rfl, H⟩ | ⟨rfl, H⟩
  ·replace H := ib_ H
   rcases H with ⟨rfl, H⟩ | ⟨rfl, H⟩
   ·have H' := Aside0.mk H
    clear H
    have hnb22 := NB405_398.out
    have hnc22 := NB398_405.out
    have hnb23 := NB405_399.out
    have hnc23 := NB399_405.out
    have hnb24 := NB405_400.out
    have hnc24 := NB400_405.out
    obtain ⟨hcz25_0, hcz25_1, hcz25_2, hfz25_0, hfz25_1, hfz25_2⟩ := ch3_ BK405
    have hnb26 := NB399_398.out
    have hnc26 := NB398_399.out
    have hnb27 := NB399_400.out
    have hnc27 := NB400_399.out
    obtain ⟨hcz28_0, hcz28_1, hcz28_2, hfz28_0, hfz28_1, hfz28_2⟩ := ch3_ BK399
    go_wp2
    go_meet
    case rel => exact ⟨_, ((!(t401 == a2_0) || (!(t402 == a2_1) || (!(t403 == a2_2))))), en_, H', ⟨by first | omega | exact Nat.le_refl _⟩, fl_ BK398 NB398_405, fl_ BK399 NB399_405, fl_ BK400 NB400_405, bp_ BK405, bw_ HB⟩
   have H' := Aside0.mk H
   clear H
   go_wp2
   go_meet
   case rel => exact ⟨_, (true), en_, H', ⟨by first | omega | exact Nat.le_refl _⟩, fl_ BK398 NB398_405, fl_ BK399 NB399_405, fl_ BK400 NB400_405, bp_ BK405, bw_ HB⟩
  have H' := Aside0.mk H
  clear H
  go_wp2
  go_meet
  case rel => exact ⟨_, (true), en_, H', ⟨by first | omega | exact Nat.le_refl _⟩, fl_ BK398 NB398_405, fl_ BK399 NB399_405, fl_ BK400 NB400_405, bp_ BK405, bw_ HB⟩
 clear HC7
 try clear hcz13_0 hcz13_1 hcz13_2
 try clear hcz19_0 hcz19_1 hcz19_2
 try clear hcz25_0 hcz25_1 hcz25_2
 try clear hcz28_0 hcz28_1 hcz28_2
 try clear hfz13_0 hfz13_1 hfz13_2
 try clear hfz19_0 hfz19_1 hfz19_2
 try clear hfz25_0 hfz25_1 hfz25_2
 try clear hfz28_0 hfz28_1 hfz28_2
 obtain ⟨kq, x33_6, rfl, HA, HJ6, BK398, BK399, BK400, BK405, HB⟩ := hcut
 cases kq with
 | zero => exact absurd HA.out (by simp [spec_l07Next.j0])
 | succ kj6 =>
  have H := HA.out
  clear HA
  simp only [spec_l07Next.j0] at H
  have HC29 := Aside0.mk H
  clear H
  go_upto_if 33 with (fail)
  go_cut [4] (fun v4 wc => ∃ (kq : Nat) (x4_28 : Int) (x401000_28 : Int) (x401001_28 : Int) (x401002_28 : Int), v4 = .int .i64 x4_28 ∧ Aside0 (spec_l07Next.j1 kq a0 a3 x4_28 a1_0 a1_1 a1_2 a2_0 a2_1 a2_2 = some (r1, r2, r3, r4)) ∧ Aside0 (kq ≤ kj6) ∧ Aside0 (wc.heap[gb398]? = some (.cells #[.int .i64 a1_0, .int .i64 a1_1, .int .i64 a1_2] 25 (0, 0))) ∧ Aside0 (wc.heap[gb399]? = some (.cells #[.int .i64 a2_0, .int .i64 a2_1, .int .i64 a2_2] 25 (0, 0))) ∧ Aside0 (wc.heap[gb400]? = some (.cells #[.int .i64 x401000_28, .int .i64 x401001_28, .int .i64 x401002_28] 25 (0, 0))) ∧ Aside0 (wc.heap[gb405]? = some (.cells #[.int .i64 t401, .int .i64 t402, .int .i64 t403] 25 (0, 0))) ∧ Aside0 (Below w.heap.size w wc))
  case first =>
   have H := HC29.out
   clear HC29
   replace H := ib_ H
   rcases H with ⟨rfl, H⟩ | ⟨rfl, H⟩
   ·replace H := ie_ H
    rcases H with ⟨c31b0, c31b1, H⟩ | ⟨c31, c31b0, c31b1, H⟩
    ·(first | rw [c31b0] | (simp only [i64_w, i32_w]; rw [c31b0]) | skip)
     simp only [Option.some.injEq, Prod.mk.injEq] at H
     obtain ⟨rfl, rfl, rfl, rfl⟩ := H
     have hnb32 := NB405_398.out
     have hnc32 := NB398_405.out
     have hnb33 := NB405_399.out
     have hnc33 := NB399_405.out
     have hnb34 := NB405_400.out
     have hnc34 := NB400_405.out
     obtain ⟨hcz35_0, hcz35_1, hcz35_2, hfz35_0, hfz35_1, hfz35_2⟩ := ch3_ BK405
     have hnb36 := NB400_398.out
     have hnc36 := NB398_400.out
     have hnb37 := NB400_399.out
     have hnc37 := NB399_400.out
     obtain ⟨hcz38_0, hcz38_1, hcz38_2, hfz38_0, hfz38_1, hfz38_2⟩ := ch3_ BK400
     go_wp2
     refine bodyPost_ret (results_ct rfl _ _ gb400 25 #[.int .i64 t401, .int .i64 t402, .int .i64 t403] (0, 0) _ rfl (bp_ BK400).out Try.underlying25 rfl (by kernel_rfl)) rfl ?_
     exact ⟨es_, (bw_ HB).out⟩
    (first | rw [c31b0] | (simp only [i64_w, i32_w]; rw [c31b0]) | skip)
    have H' := Aside0.mk H
    clear H
    go_wp2
    go_meet
    case rel => exact ⟨_, (wrap64 (a4 - 1)), (0), (0), (0), en_, H', ⟨by have := HJ6.out; first | omega | exact Nat.le_refl _⟩, bl_ BK398, bl_ BK399, bl_ BK400, bl_ BK405, bw_ HB⟩
   have H' := Aside0.mk H
   clear H
   go_wp2
   go_meet
   case rel => exact ⟨_, (a4), (0), (0), (0), en_, H', ⟨by have := HJ6.out; first | omega | exact Nat.le_refl _⟩, bl_ BK398, bl_ BK399, bl_ BK400, bl_ BK405, bw_ HB⟩
  clear HC29
  try clear c31
  try clear c31b0
  try clear c31b1
  try clear hcz13_0 hcz13_1 hcz13_2
  try clear hcz19_0 hcz19_1 hcz19_2
  try clear hcz25_0 hcz25_1 hcz25_2
  try clear hcz28_0 hcz28_1 hcz28_2
  try clear hcz35_0 hcz35_1 hcz35_2
  try clear hcz38_0 hcz38_1 hcz38_2
  try clear hfz13_0 hfz13_1 hfz13_2
  try clear hfz19_0 hfz19_1 hfz19_2
  try clear hfz25_0 hfz25_1 hfz25_2
  try clear hfz28_0 hfz28_1 hfz28_2
  try clear hfz35_0 hfz35_1 hfz35_2
  try clear hfz38_0 hfz38_1 hfz38_2
  obtain ⟨kq, x4_28, x401000_28, x401001_28, x401002_28, rfl, HA, HJ28, BK398, BK399, BK400, BK405, HB⟩ := hcut
  cases kq with
  | zero => exact absurd HA.out (by simp [spec_l07Next.j1])
  | succ kj28 =>
   have H := HA.out
   clear HA
   simp only [spec_l07Next.j1] at H
   have H' := Aside0.mk H
   clear H
   go_wp2
   go_loopg [4, 14] kj28 (fun kq v4 v14 w' => ∃ (x4_3 : Int) (x14_3 : Int) (x401000_3 : Int) (x401001_3 : Int) (x401002_3 : Int), v4 = .int .i64 x4_3 ∧ v14 = .int .i64 x14_3 ∧ Aside0 (spec_l07Next.l0 kq a0 a3 x4_3 x14_3 a1_0 a1_1 a1_2 a2_0 a2_1 a2_2 = some (r1, r2, r3, r4)) ∧ Aside0 (kq ≤ kj28) ∧ Aside0 (w'.heap[gb398]? = some (.cells #[.int .i64 a1_0, .int .i64 a1_1, .int .i64 a1_2] 25 (0, 0))) ∧ Aside0 (w'.heap[gb399]? = some (.cells #[.int .i64 a2_0, .int .i64 a2_1, .int .i64 a2_2] 25 (0, 0))) ∧ Aside0 (w'.heap[gb400]? = some (.cells #[.int .i64 x401000_3, .int .i64 x401001_3, .int .i64 x401002_3] 25 (0, 0))) ∧ Aside0 (w'.heap[gb405]? = some (.cells #[.int .i64 t401, .int .i64 t402, .int .i64 t403] 25 (0, 0))) ∧ Aside0 (Below w.heap.size w w'))
   case atStart => exact ⟨(x4_28), (0), (x401000_28), (x401001_28), (x401002_28), en_, en_, H', ⟨Nat.le_refl _⟩, bl_ BK398, bl_ BK399, bl_ BK400, bl_ BK405, bw_ HB⟩
   clear H'
   try clear c31
   try clear c31b0
   try clear c31b1
   try clear hcz13_0 hcz13_1 hcz13_2
   try clear hcz19_0 hcz19_1 hcz19_2
   try clear hcz25_0 hcz25_1 hcz25_2
   try clear hcz28_0 hcz28_1 hcz28_2
   try clear hcz35_0 hcz35_1 hcz35_2
   try clear hcz38_0 hcz38_1 hcz38_2
   try clear hfz13_0 hfz13_1 hfz13_2
   try clear hfz19_0 hfz19_1 hfz19_2
   try clear hfz25_0 hfz25_1 hfz25_2
   try clear hfz28_0 hfz28_1 hfz28_2
   try clear hfz35_0 hfz35_1 hfz35_2
   try clear hfz38_0 hfz38_1 hfz38_2
   obtain ⟨x4_3, x14_3, x401000_3, x401001_3, x401002_3, rfl, rfl, HA, HK3, BK398, BK399, BK400, BK405, HB⟩ := hrel
   cases gk with
   | zero => exact absurd HA.out (by simp [spec_l07Next.l0])
   | succ k3 =>
    have H := HA.out
    clear HA
    simp only [spec_l07Next.l0] at H
    replace H := il_ H
    rcases H with ⟨c39b0, H⟩ | ⟨c39b0, H⟩
    ·replace H := oc_ H
     obtain ⟨⟨t406, t407, t408, t409⟩, A40, H⟩ := H
     have HC41 := Aside0.mk H
     clear H
     have hnb42 := NB398_399.out
     have hnc42 := NB399_398.out
     have hnb43 := NB398_400.out
     have hnc43 := NB400_398.out
     have hnb44 := NB398_405.out
     have hnc44 := NB405_398.out
     obtain ⟨hcz45_0, hcz45_1, hcz45_2, hfz45_0, hfz45_1, hfz45_2⟩ := ch3_ BK398
     go_upto_region 10 with (first | ((refine gc_ 153 ?_); refine ge_ 49 Try.func153 #[.int .i64 a0, .agg #[.int .i64 a1_0, .int .i64 a1_1, .int .i64 a1_2], .int .i64 x14_3] ?_; (with_reducible refine (spec_l01Child.calls k3 a0 a1_0 a1_1 a1_2 x14_3 t406 t407 t408 t409 _ A40.out).mono ?_); rintro e w46 ⟨rfl, hb⟩; refine ⟨_, rfl, ?_⟩; replace BK398 := bb_ BK398 hb; replace BK399 := bb_ BK399 hb; replace BK400 := bb_ BK400 hb; replace BK405 := bb_ BK405 hb; replace HB := bt_ HB hb; (try clear hb)) | ((refine gd_ 15 ?_); refine by_ 15 #[.int .i64 0, .int .i64 0, .int .i64 0] 25 HB ?_; intro gb410 hg w47 BK410 hb GW410 HB_; have NB398_410 := bm_ BK398 hg; have NB410_398 := bn_ BK398 hg; have NB399_410 := bm_ BK399 hg; have NB410_399 := bn_ BK399 hg; have NB400_410 := bm_ BK400 hg; have NB410_400 := bn_ BK400 hg; have NB405_410 := bm_ BK405 hg; have NB410_405 := bn_ BK405 hg; replace BK398 := bb_ BK398 hb; replace BK399 := bb_ BK399 hb; replace BK400 := bb_ BK400 hb; replace BK405 := bb_ BK405 hb; replace HB := HB_; clear hb hg; have hnb48 := NB410_398.out; have hnc48 := NB398_410.out; have hnb49 := NB410_399.out; have hnc49 := NB399_410.out; have hnb50 := NB410_400.out; have hnc50 := NB400_410.out; have hnb51 := NB410_405.out; have hnc51 := NB405_410.out; obtain ⟨hcz52_0, hcz52_1, hcz52_2, hfz52_0, hfz52_1, hfz52_2⟩ := ch3_ BK410))
     (try simp only [Act.put, lstS, lstZ, lstC])
     go_cut [60] (fun v60 wc => ∃ (kq : Nat) (x60_40 : Bool), v60 = .bool x60_40 ∧ Aside0 (spec_l07Next.j3 kq a0 a3 x4_3 x14_3 t409 x60_40 a1_0 a1_1 a1_2 a2_0 a2_1 a2_2 t406 t407 t408 = some (r1, r2, r3, r4)) ∧ Aside0 (kq ≤ k3) ∧ Aside0 (wc.heap[gb398]? = some (.cells #[.int .i64 a1_0, .int .i64 a1_1, .int .i64 a1_2] 25 (0, 0))) ∧ Aside0 (wc.heap[gb399]? = some (.cells #[.int .i64 a2_0, .int .i64 a2_1, .int .i64 a2_2] 25 (0, 0))) ∧ Aside0 (wc.heap[gb400]? = some (.cells #[.int .i64 x401000_3, .int .i64 x401001_3, .int .i64 x401002_3] 25 (0, 0))) ∧ Aside0 (wc.heap[gb405]? = some (.cells #[.int .i64 t401, .int .i64 t402, .int .i64 t403] 25 (0, 0))) ∧ Aside0 (wc.heap[gb410]? = some (.cells #[.int .i64 t406, .int .i64 t407, .int .i64 t408] 25 (0, 0))) ∧ Aside0 (Below w.heap.size w wc))
     case first =>
      have H := HC41.out
      clear HC41
      replace H := ib_ H
      rcases H with ⟨rfl, H⟩ | ⟨rfl, H⟩
      ·replace H := ib_ H
       rcases H with ⟨rfl, H⟩ | ⟨rfl, H⟩
       ·have H' := Aside0.mk H
        clear H
        have hnb55 := NB410_398.out
        have hnc55 := NB398_410.out
        have hnb56 := NB410_399.out
        have hnc56 := NB399_410.out
        have hnb57 := NB410_400.out
        have hnc57 := NB400_410.out
        have hnb58 := NB410_405.out
        have hnc58 := NB405_410.out
        obtain ⟨hcz59_0, hcz59_1, hcz59_2, hfz59_0, hfz59_1, hfz59_2⟩ := ch3_ BK410
        have hnb60 := NB399_398.out
        have hnc60 := NB398_399.out
        have hnb61 := NB399_400.out
        have hnc61 := NB400_399.out
        have hnb62 := NB399_405.out
        have hnc62 := NB405_399.out
        obtain ⟨hcz63_0, hcz63_1, hcz63_2, hfz63_0, hfz63_1, hfz63_2⟩ := ch3_ BK399
        go_wp2
        go_meet
        case rel => exact ⟨_, ((t406 == a2_0 && (t407 == a2_1 && (t408 == a2_2)))), en_, H', ⟨by have := HJ6.out; have := HJ28.out; have := HK3.out; first | omega | exact Nat.le_refl _⟩, fl_ BK398 NB398_410, fl_ BK399 NB399_410, fl_ BK400 NB400_410, fl_ BK405 NB405_410, bp_ BK410, bw_ HB⟩
       have H' := Aside0.mk H
       clear H
       go_wp2
       go_meet
       case rel => exact ⟨_, (false), en_, H', ⟨by have := HJ6.out; have := HJ28.out; have := HK3.out; first | omega | exact Nat.le_refl _⟩, fl_ BK398 NB398_410, fl_ BK399 NB399_410, fl_ BK400 NB400_410, fl_ BK405 NB405_410, bp_ BK410, bw_ HB⟩
      have H' := Aside0.mk H
      clear H
      go_wp2
      go_meet
      case rel => exact ⟨_, (false), en_, H', ⟨by have := HJ6.out; have := HJ28.out; have := HK3.out; first | omega | exact Nat.le_refl _⟩, fl_ BK398 NB398_410, fl_ BK399 NB399_410, fl_ BK400 NB400_410, fl_ BK405 NB405_410, bp_ BK410, bw_ HB⟩
     clear HC41
     try clear c31
     try clear c31b0
     try clear c31b1
     try clear c39b0
     try clear hcz13_0 hcz13_1 hcz13_2
     try clear hcz19_0 hcz19_1 hcz19_2
     try clear hcz25_0 hcz25_1 hcz25_2
     try clear hcz28_0 hcz28_1 hcz28_2
     try clear hcz35_0 hcz35_1 hcz35_2
     try clear hcz38_0 hcz38_1 hcz38_2
     try clear hcz45_0 hcz45_1 hcz45_2
     try clear hcz52_0 hcz52_1 hcz52_2
     try clear hcz59_0 hcz59_1 hcz59_2
     try clear hcz63_0 hcz63_1 hcz63_2
     try clear hfz13_0 hfz13_1 hfz13_2
     try clear hfz19_0 hfz19_1 hfz19_2
     try clear hfz25_0 hfz25_1 hfz25_2
     try clear hfz28_0 hfz28_1 hfz28_2
     try clear hfz35_0 hfz35_1 hfz35_2
     try clear hfz38_0 hfz38_1 hfz38_2
     try clear hfz45_0 hfz45_1 hfz45_2
     try clear hfz52_0 hfz52_1 hfz52_2
     try clear hfz59_0 hfz59_1 hfz59_2
     try clear hfz63_0 hfz63_1 hfz63_2
     obtain ⟨kq, x60_40, rfl, HA, HJ40, BK398, BK399, BK400, BK405, BK410, HB⟩ := hcut
     cases kq with
     | zero => exact absurd HA.out (by simp [spec_l07Next.j3])
     | succ kj40 =>
      have H := HA.out
      clear HA
      simp only [spec_l07Next.j3] at H
      replace H := ib_ H
      rcases H with ⟨rfl, H⟩ | ⟨rfl, H⟩
      ·have H' := Aside0.mk H
       clear H
       go_wp2
       go_roundg kj40
       case measure => have := HJ6.out; have := HJ28.out; have := HK3.out; have := HJ40.out; omega
       case rel => exact ⟨(x4_3), (wrap64 (x14_3 + 1)), (x401000_3), (x401001_3), (x401002_3), en_, en_, H', ⟨by have := HJ6.out; have := HJ28.out; have := HK3.out; have := HJ40.out; omega⟩, bl_ BK398, bl_ BK399, bl_ BK400, bl_ BK405, bw_ HB⟩
      replace H := ie_ H
      rcases H with ⟨c65b0, c65b1, H⟩ | ⟨c65, c65b0, c65b1, H⟩
      ·simp only [Option.some.injEq, Prod.mk.injEq] at H
       obtain ⟨rfl, rfl, rfl, rfl⟩ := H
       have hnb66 := NB410_398.out
       have hnc66 := NB398_410.out
       have hnb67 := NB410_399.out
       have hnc67 := NB399_410.out
       have hnb68 := NB410_400.out
       have hnc68 := NB400_410.out
       have hnb69 := NB410_405.out
       have hnc69 := NB405_410.out
       obtain ⟨hcz70_0, hcz70_1, hcz70_2, hfz70_0, hfz70_1, hfz70_2⟩ := ch3_ BK410
       have hnb71 := NB400_398.out
       have hnc71 := NB398_400.out
       have hnb72 := NB400_399.out
       have hnc72 := NB399_400.out
       have hnb73 := NB400_405.out
       have hnc73 := NB405_400.out
       obtain ⟨hcz74_0, hcz74_1, hcz74_2, hfz74_0, hfz74_1, hfz74_2⟩ := ch3_ BK400
       go_wp2
       refine bodyPost_ret (results_ct rfl _ _ gb400 25 #[.int .i64 t406, .int .i64 t407, .int .i64 t408] (0, 0) _ rfl (bp_ BK400).out Try.underlying25 rfl (by kernel_rfl)) rfl ?_
       exact ⟨es_, (bw_ HB).out⟩
      have H' := Aside0.mk H
      clear H
      go_wp2
      go_roundg kj40
      case measure => have := HJ6.out; have := HJ28.out; have := HK3.out; have := HJ40.out; omega
      case rel => exact ⟨(wrap64 (x4_3 - 1)), (wrap64 (x14_3 + 1)), (x401000_3), (x401001_3), (x401002_3), en_, en_, H', ⟨by have := HJ6.out; have := HJ28.out; have := HK3.out; have := HJ40.out; omega⟩, bl_ BK398, bl_ BK399, bl_ BK400, bl_ BK405, bw_ HB⟩
    simp only [Option.some.injEq, Prod.mk.injEq] at H
    obtain ⟨rfl, rfl, rfl, rfl⟩ := H
    have hnb75 := NB400_398.out
    have hnc75 := NB398_400.out
    have hnb76 := NB400_399.out
    have hnc76 := NB399_400.out
    have hnb77 := NB400_405.out
    have hnc77 := NB405_400.out
    obtain ⟨hcz78_0, hcz78_1, hcz78_2, hfz78_0, hfz78_1, hfz78_2⟩ := ch3_ BK400
    go_wp2
    refine bodyPost_ret (results_ct rfl _ _ gb400 25 #[.int .i64 0, .int .i64 0, .int .i64 0] (0, 0) _ rfl (bp_ BK400).out Try.underlying25 rfl (by kernel_rfl)) rfl ?_
    exact ⟨es_, (bw_ HB).out⟩
end Go.Proofs.Ytgoeelhiffbjlaa.QP
