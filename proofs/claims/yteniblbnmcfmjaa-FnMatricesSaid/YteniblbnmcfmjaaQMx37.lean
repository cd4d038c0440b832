import Derived.Test.YteniblbnmcfmjaaQMx6
import Derived.Test.YteniblbnmcfmjaaQMx20
import Derived.Test.YteniblbnmcfmjaaQMx22
import Derived.Test.YteniblbnmcfmjaaQMx33
namespace Go.Proofs.Yteniblbnmcfmjaa.QM
open Go.RowKit Go.Proofs.YteniblbnmcfmjaaW.PrintWords Go.Proofs.YteniblbnmcfmjaaW.PrintLast Go.Proofs.YteniblbnmcfmjaaW.PrintMore
attribute [local go_sem] isSome_setCell max2_int min2_int max_two min_two max_three min_three max_four min_four
set_option linter.unusedVariables false
set_option linter.unusedSimpArgs false

/-! ### spec_PowerMatrix: function 18 -/
mutual
def spec_PowerMatrix.j0 : Nat → Int → Int → Int → Int → Int → Option (Int × Int × Int × Int × Int)
 | 0, _, _, _, _, _ => none
 | k + 1, x1, x395000, x395001, x395002, x395003 => spec_PowerMatrix.l0 k x1 x395000 x395001 x395002 x395003 1 0 0 1
def spec_PowerMatrix.l0 : Nat → Int → Int → Int → Int → Int → Int → Int → Int → Int → Option (Int × Int × Int × Int × Int)
 | 0, _, _, _, _, _, _, _, _, _ => none
 | k + 1, x1, x395000, x395001, x395002, x395003, x403000, x403001, x403002, x403003 => if x1 > 0 then ((spec_l04Times.f k x403000 x403001 x403002 x403003 x395000 x395001 x395002 x395003).bind fun bt403 => (if bt403.2.2.2.2 = true then (spec_PowerMatrix.l0 k (wrap64 (x1 - 1)) x395000 x395001 x395002 x395003 bt403.1 bt403.2.1 bt403.2.2.1 bt403.2.2.2.1) else (some (0, 0, 0, 0, 3)))) else (some (x403000, x403001, x403002, x403003, 0))
end
def spec_PowerMatrix.f (k : Nat) (a0_0 a0_1 a0_2 a0_3 a1 : Int) : Option (Int × Int × Int × Int × Int) := (spec_l04Is.f k a0_0 a0_1 a0_2 a0_3).bind fun t396 => (if t396 = true then ((spec_l01In.f a1 (-20) 20).bind fun t397 => (if t397 = true then (if a1 < 0 then ((spec_l04Inverse.f k a0_0 a0_1 a0_2 a0_3).bind fun bt398 => (spec_PowerMatrix.j0 k (wrap64 (-a1)) bt398.1 bt398.2.1 bt398.2.2.1 bt398.2.2.2)) else (spec_PowerMatrix.j0 k a1 a0_0 a0_1 a0_2 a0_3)) else (some (0, 0, 0, 0, 2)))) else (some (0, 0, 0, 0, 1)))
set_option maxHeartbeats 8000000 in
set_option maxRecDepth 100000 in
theorem spec_PowerMatrix.calls (k : Nat) (a0_0 a0_1 a0_2 a0_3 a1 r1 r2 r3 r4 r5 : Int) (w : World) (h : spec_PowerMatrix.f k a0_0 a0_1 a0_2 a0_3 a1 = some (r1, r2, r3, r4, r5)) :
  Calls Try.prog 18 #[.agg #[.int .i64 a0_0, .int .i64 a0_1, .int .i64 a0_2, .int .i64 a0_3], .int .i64 a1] w fun e w' => e = .returned (.tuple #[.agg #[.int .i64 r1, .int .i64 r2, .int .i64 r3, .int .i64 r4], .int .i64 r5]) ∧ Below w.heap.size w w' := by
 have hu26 := Try.underlying26
 have hu24 := Try.underlying24
 have HB := Aside0.mk (Below.refl w.heap.size w)
 unfold spec_PowerMatrix.f at h
 have H := h
 clear h
 replace H := oc_ H
 obtain ⟨t396, A3, H⟩ := H
 replace H := ib_ H
 rcases H with ⟨rfl, H⟩ | ⟨rfl, H⟩
 ·replace H := oc_ H
  obtain ⟨t397, A5, H⟩ := H
  replace H := ib_ H
  rcases H with ⟨rfl, H⟩ | ⟨rfl, H⟩
  ·have HC7 := Aside0.mk H
   clear H
   go_enter Try.func18, Try.ntmps18
   go_upto_if 20 with (first | ((refine gd_ 2 ?_); refine by_ 2 #[.int .i64 a0_0, .int .i64 a0_1, .int .i64 a0_2, .int .i64 a0_3] 26 HB ?_; intro gb394 hg w8 BK394 hb GW394 HB_; replace HB := HB_; clear hb hg) | ((refine gd_ 4 ?_); refine by_ 4 #[.int .i64 0, .int .i64 0, .int .i64 0, .int .i64 0] 26 HB ?_; intro gb395 hg w9 BK395 hb GW395 HB_; have NB394_395 := bm_ BK394 hg; have NB395_394 := bn_ BK394 hg; replace BK394 := bb_ BK394 hb; replace HB := HB_; clear hb hg; have hnb10 := NB394_395.out; have hnc10 := NB395_394.out; obtain ⟨hcz11_0, hcz11_1, hcz11_2, hcz11_3, hfz11_0, hfz11_1, hfz11_2, hfz11_3⟩ := ch4_ BK394) | ((refine gc_ 27 ?_); refine ge_ 11 Try.func27 #[.agg #[.int .i64 a0_0, .int .i64 a0_1, .int .i64 a0_2, .int .i64 a0_3]] ?_; (with_reducible refine (spec_l04Is.calls k a0_0 a0_1 a0_2 a0_3 true _ A3.out).mono ?_); rintro e w12 ⟨rfl, hb⟩; refine ⟨_, rfl, ?_⟩; replace BK394 := bb_ BK394 hb; replace BK395 := bb_ BK395 hb; replace HB := bt_ HB hb; (try clear hb)) | ((refine gc_ 38 ?_); refine ge_ 16 Try.func38 #[.int .i64 a1, .int .i64 (-20), .int .i64 20] ?_; (with_reducible refine (spec_l01In.calls a1 (-20) 20 true _ A5.out).mono ?_); rintro e w' ⟨rfl, ⟨nd, rfl⟩⟩; refine ⟨_, rfl, ?_⟩))
   (try simp only [Act.put, lstS, lstZ, lstC])
   go_cut [1] (fun v1 wc => ∃ (kq : Nat) (x1_6 : Int) (x395000_6 : Int) (x395001_6 : Int) (x395002_6 : Int) (x395003_6 : Int), v1 = .int .i64 x1_6 ∧ Aside0 (spec_PowerMatrix.j0 kq x1_6 x395000_6 x395001_6 x395002_6 x395003_6 = some (r1, r2, r3, r4, r5)) ∧ Aside0 (kq ≤ k) ∧ Aside0 (wc.heap[gb394]? = some (.cells #[.int .i64 x395000_6, .int .i64 x395001_6, .int .i64 x395002_6, .int .i64 x395003_6] 26 (0, 0))) ∧ Aside0 (wc.heap[gb395]? = some (.cells #[.int .i64 0, .int .i64 0, .int .i64 0, .int .i64 0] 26 (0, 0))) ∧ Aside0 (Below w.heap.size w wc))
   case first =>
    have H := HC7.out
    clear HC7
    replace H := il_ H
    rcases H with ⟨c13b0, H⟩ | ⟨c13b0, H⟩
    ·(first | rw [c13b0] | (simp only [i64_w, i32_w]; rw [c13b0]) | skip)
     replace H := oc_ H
     obtain ⟨⟨t398, t399, t400, t401⟩, A14, H⟩ := H
     have H' := Aside0.mk H
     clear H
     have hnb15 := NB394_395.out
     have hnc15 := NB395_394.out
     obtain ⟨hcz16_0, hcz16_1, hcz16_2, hcz16_3, hfz16_0, hfz16_1, hfz16_2, hfz16_3⟩ := ch4_ BK394
     go_wp2_with (first | ((refine gc_ 35 ?_); refine ge_ 22 Try.func35 #[.agg #[.int .i64 a0_0, .int .i64 a0_1, .int .i64 a0_2, .int .i64 a0_3]] ?_; (with_reducible refine (spec_l04Inverse.calls k a0_0 a0_1 a0_2 a0_3 t398 t399 t400 t401 _ A14.out).mono ?_); rintro e w17 ⟨rfl, hb⟩; refine ⟨_, rfl, ?_⟩; replace BK394 := bb_ BK394 hb; replace BK395 := bb_ BK395 hb; replace HB := bt_ HB hb; (try clear hb); obtain ⟨hcz18_0, hcz18_1, hcz18_2, hcz18_3, hfz18_0, hfz18_1, hfz18_2, hfz18_3⟩ := ch4_ BK394))
     go_meet
     case rel => exact ⟨_, (wrap64 (-a1)), (t398), (t399), (t400), (t401), en_, H', ⟨by first | omega | exact Nat.le_refl _⟩, bp_ BK394, fl_ BK395 NB395_394, bw_ HB⟩
    (first | rw [c13b0] | (simp only [i64_w, i32_w]; rw [c13b0]) | skip)
    have H' := Aside0.mk H
    clear H
    go_wp2
    go_meet
    case rel => exact ⟨_, (a1), (a0_0), (a0_1), (a0_2), (a0_3), en_, H', ⟨by first | omega | exact Nat.le_refl _⟩, bl_ BK394, bl_ BK395, bw_ HB⟩
   clear HC7
   try clear c13b0
   try clear hcz11_0 hcz11_1 hcz11_2 hcz11_3
   try clear hcz16_0 hcz16_1 hcz16_2 hcz16_3
   try clear hcz18_0 hcz18_1 hcz18_2 hcz18_3
   try clear hfz11_0 hfz11_1 hfz11_2 hfz11_3
   try clear hfz16_0 hfz16_1 hfz16_2 hfz16_3
   try clear hfz18_0 hfz18_1 hfz18_2 hfz18_3
   obtain ⟨kq, x1_6, x395000_6, x395001_6, x395002_6, x395003_6, rfl, HA, HJ6, BK394, BK395, HB⟩ := hcut
   cases kq with
   | zero => exact absurd HA.out (by simp [spec_PowerMatrix.j0])
   | succ kj6 =>
    have H := HA.out
    clear HA
    simp only [spec_PowerMatrix.j0] at H
    have H' := Aside0.mk H
    clear H
    go_wp2_with (first | ((refine gd_ 6 ?_); refine by_ 6 #[.int .i64 0, .int .i64 0, .int .i64 0, .int .i64 0] 26 HB ?_; intro gb402 hg w19 BK402 hb GW402 HB_; have NB394_402 := bm_ BK394 hg; have NB402_394 := bn_ BK394 hg; have NB395_402 := bm_ BK395 hg; have NB402_395 := bn_ BK395 hg; replace BK394 := bb_ BK394 hb; replace BK395 := bb_ BK395 hb; replace HB := HB_; clear hb hg; have hnb20 := NB402_394.out; have hnc20 := NB394_402.out; have hnb21 := NB402_395.out; have hnc21 := NB395_402.out; obtain ⟨hcz22_0, hcz22_1, hcz22_2, hcz22_3, hfz22_0, hfz22_1, hfz22_2, hfz22_3⟩ := ch4_ BK402))
    go_loopg [1] kj6 (fun kq v1 w' => ∃ (x1_2 : Int) (x396000_2 : Int) (x396001_2 : Int) (x396002_2 : Int) (x396003_2 : Int) (x403000_2 : Int) (x403001_2 : Int) (x403002_2 : Int) (x403003_2 : Int), v1 = .int .i64 x1_2 ∧ Aside0 (spec_PowerMatrix.l0 kq x1_2 x395000_6 x395001_6 x395002_6 x395003_6 x403000_2 x403001_2 x403002_2 x403003_2 = some (r1, r2, r3, r4, r5)) ∧ Aside0 (kq ≤ kj6) ∧ Aside0 (w'.heap[gb394]? = some (.cells #[.int .i64 x395000_6, .int .i64 x395001_6, .int .i64 x395002_6, .int .i64 x395003_6] 26 (0, 0))) ∧ Aside0 (w'.heap[gb395]? = some (.cells #[.int .i64 x396000_2, .int .i64 x396001_2, .int .i64 x396002_2, .int .i64 x396003_2] 26 (0, 0))) ∧ Aside0 (w'.heap[gb402]? = some (.cells #[.int .i64 x403000_2, .int .i64 x403001_2, .int .i64 x403002_2, .int .i64 x403003_2] 26 (0, 0))) ∧ Aside0 (Below w.heap.size w w'))
    case atStart => exact ⟨(x1_6), (0), (0), (0), (0), (1), (0), (0), (1), en_, H', ⟨Nat.le_refl _⟩, fl_ BK394 NB394_402, fl_ BK395 NB395_402, bp_ BK402, bw_ HB⟩
    clear H'
    try clear c13b0
    try clear hcz11_0 hcz11_1 hcz11_2 hcz11_3
    try clear hcz16_0 hcz16_1 hcz16_2 hcz16_3
    try clear hcz18_0 hcz18_1 hcz18_2 hcz18_3
    try clear hcz22_0 hcz22_1 hcz22_2 hcz22_3
    try clear hfz11_0 hfz11_1 hfz11_2 hfz11_3
    try clear hfz16_0 hfz16_1 hfz16_2 hfz16_3
    try clear hfz18_0 hfz18_1 hfz18_2 hfz18_3
    try clear hfz22_0 hfz22_1 hfz22_2 hfz22_3
    obtain ⟨x1_2, x396000_2, x396001_2, x396002_2, x396003_2, x403000_2, x403001_2, x403002_2, x403003_2, rfl, HA, HK2, BK394, BK395, BK402, HB⟩ := hrel
    cases gk with
    | zero => exact absurd HA.out (by simp [spec_PowerMatrix.l0])
    | succ k2 =>
     have H := HA.out
     clear HA
     simp only [spec_PowerMatrix.l0] at H
     replace H := ig_ H
     rcases H with ⟨c23b0, H⟩ | ⟨c23b0, H⟩
     ·replace H := oc_ H
      obtain ⟨⟨t403, t404, t405, t406, t407⟩, A24, H⟩ := H
      replace H := ib_ H
      rcases H with ⟨rfl, H⟩ | ⟨rfl, H⟩
      ·have H' := Aside0.mk H
       clear H
       have hnb26 := NB402_394.out
       have hnc26 := NB394_402.out
       have hnb27 := NB402_395.out
       have hnc27 := NB395_402.out
       obtain ⟨hcz28_0, hcz28_1, hcz28_2, hcz28_3, hfz28_0, hfz28_1, hfz28_2, hfz28_3⟩ := ch4_ BK402
       have hnb29 := NB394_395.out
       have hnc29 := NB395_394.out
       obtain ⟨hcz30_0, hcz30_1, hcz30_2, hcz30_3, hfz30_0, hfz30_1, hfz30_2, hfz30_3⟩ := ch4_ BK394
       go_wp2_with (first | ((refine gc_ 28 ?_); refine ge_ 35 Try.func28 #[.agg #[.int .i64 x403000_2, .int .i64 x403001_2, .int .i64 x403002_2, .int .i64 x403003_2], .agg #[.int .i64 x395000_6, .int .i64 x395001_6, .int .i64 x395002_6, .int .i64 x395003_6]] ?_; (with_reducible refine (spec_l04Times.calls k2 x403000_2 x403001_2 x403002_2 x403003_2 x395000_6 x395001_6 x395002_6 x395003_6 t403 t404 t405 t406 true _ A24.out).mono ?_); rintro e w31 ⟨rfl, hb⟩; refine ⟨_, rfl, ?_⟩; replace BK394 := bb_ BK394 hb; replace BK395 := bb_ BK395 hb; replace BK402 := bb_ BK402 hb; replace HB := bt_ HB hb; (try clear hb)) | ((refine gd_ 7 ?_); refine by_ 7 #[.int .i64 0, .int .i64 0, .int .i64 0, .int .i64 0] 26 HB ?_; intro gb408 hg w32 BK408 hb GW408 HB_; have NB394_408 := bm_ BK394 hg; have NB408_394 := bn_ BK394 hg; have NB395_408 := bm_ BK395 hg; have NB408_395 := bn_ BK395 hg; have NB402_408 := bm_ BK402 hg; have NB408_402 := bn_ BK402 hg; replace BK394 := bb_ BK394 hb; replace BK395 := bb_ BK395 hb; replace BK402 := bb_ BK402 hb; replace HB := HB_; clear hb hg; have hnb33 := NB408_394.out; have hnc33 := NB394_408.out; have hnb34 := NB408_395.out; have hnc34 := NB395_408.out; have hnb35 := NB408_402.out; have hnc35 := NB402_408.out; obtain ⟨hcz36_0, hcz36_1, hcz36_2, hcz36_3, hfz36_0, hfz36_1, hfz36_2, hfz36_3⟩ := ch4_ BK408; obtain ⟨hcz37_0, hcz37_1, hcz37_2, hcz37_3, hfz37_0, hfz37_1, hfz37_2, hfz37_3⟩ := ch4_ BK402))
       go_roundg k2
       case measure => have := HJ6.out; have := HK2.out; omega
       case rel => exact ⟨(wrap64 (x1_2 - 1)), (x396000_2), (x396001_2), (x396002_2), (x396003_2), (t403), (t404), (t405), (t406), en_, H', ⟨by have := HJ6.out; have := HK2.out; omega⟩, bp_ BK394, bp_ BK395, bp_ BK402, bw_ HB⟩
      simp only [Option.some.injEq, Prod.mk.injEq] at H
      obtain ⟨rfl, rfl, rfl, rfl, rfl⟩ := H
      have hnb38 := NB402_394.out
      have hnc38 := NB394_402.out
      have hnb39 := NB402_395.out
      have hnc39 := NB395_402.out
      obtain ⟨hcz40_0, hcz40_1, hcz40_2, hcz40_3, hfz40_0, hfz40_1, hfz40_2, hfz40_3⟩ := ch4_ BK402
      have hnb41 := NB394_395.out
      have hnc41 := NB395_394.out
      obtain ⟨hcz42_0, hcz42_1, hcz42_2, hcz42_3, hfz42_0, hfz42_1, hfz42_2, hfz42_3⟩ := ch4_ BK394
      go_wp2_with (first | ((refine gc_ 28 ?_); refine ge_ 35 Try.func28 #[.agg #[.int .i64 x403000_2, .int .i64 x403001_2, .int .i64 x403002_2, .int .i64 x403003_2], .agg #[.int .i64 x395000_6, .int .i64 x395001_6, .int .i64 x395002_6, .int .i64 x395003_6]] ?_; (with_reducible refine (spec_l04Times.calls k2 x403000_2 x403001_2 x403002_2 x403003_2 x395000_6 x395001_6 x395002_6 x395003_6 t403 t404 t405 t406 false _ A24.out).mono ?_); rintro e w43 ⟨rfl, hb⟩; refine ⟨_, rfl, ?_⟩; replace BK394 := bb_ BK394 hb; replace BK395 := bb_ BK395 hb; replace BK402 := bb_ BK402 hb; replace HB := bt_ HB hb; (try clear hb)) | ((refine gd_ 7 ?_); refine by_ 7 #[.int .i64 0, .int .i64 0, .int .i64 0, .int .i64 0] 26 HB ?_; intro gb408 hg w44 BK408 hb GW408 HB_; have NB394_408 := bm_ BK394 hg; have NB408_394 := bn_ BK394 hg; have NB395_408 := bm_ BK395 hg; have NB408_395 := bn_ BK395 hg; have NB402_408 := bm_ BK402 hg; have NB408_402 := bn_ BK402 hg; replace BK394 := bb_ BK394 hb; replace BK395 := bb_ BK395 hb; replace BK402 := bb_ BK402 hb; replace HB := HB_; clear hb hg; have hnb45 := NB408_394.out; have hnc45 := NB394_408.out; have hnb46 := NB408_395.out; have hnc46 := NB395_408.out; have hnb47 := NB408_402.out; have hnc47 := NB402_408.out; obtain ⟨hcz48_0, hcz48_1, hcz48_2, hcz48_3, hfz48_0, hfz48_1, hfz48_2, hfz48_3⟩ := ch4_ BK408; obtain ⟨hcz49_0, hcz49_1, hcz49_2, hcz49_3, hfz49_0, hfz49_1, hfz49_2, hfz49_3⟩ := ch4_ BK395))
      refine bodyPost_ret (results_ct rfl _ _ gb395 26 #[.int .i64 0, .int .i64 0, .int .i64 0, .int .i64 0] (0, 0) _ rfl (bp_ BK395).out Try.underlying26 rfl (by kernel_rfl)) rfl ?_
      exact ⟨es_, (bw_ HB).out⟩
     simp only [Option.some.injEq, Prod.mk.injEq] at H
     obtain ⟨rfl, rfl, rfl, rfl, rfl⟩ := H
     have hnb50 := NB402_394.out
     have hnc50 := NB394_402.out
     have hnb51 := NB402_395.out
     have hnc51 := NB395_402.out
     obtain ⟨hcz52_0, hcz52_1, hcz52_2, hcz52_3, hfz52_0, hfz52_1, hfz52_2, hfz52_3⟩ := ch4_ BK402
     have hnb53 := NB395_394.out
     have hnc53 := NB394_395.out
     obtain ⟨hcz54_0, hcz54_1, hcz54_2, hcz54_3, hfz54_0, hfz54_1, hfz54_2, hfz54_3⟩ := ch4_ BK395
     go_wp2
     refine bodyPost_ret (results_ct rfl _ _ gb395 26 #[.int .i64 x403000_2, .int .i64 x403001_2, .int .i64 x403002_2, .int .i64 x403003_2] (0, 0) _ rfl (bp_ BK395).out Try.underlying26 rfl (by kernel_rfl)) rfl ?_
     exact ⟨es_, (bw_ HB).out⟩
  simp only [Option.some.injEq, Prod.mk.injEq] at H
  obtain ⟨rfl, rfl, rfl, rfl, rfl⟩ := H
  go_enter Try.func18, Try.ntmps18
  go_wp2_with (first | ((refine gd_ 2 ?_); refine by_ 2 #[.int .i64 a0_0, .int .i64 a0_1, .int .i64 a0_2, .int .i64 a0_3] 26 HB ?_; intro gb394 hg w55 BK394 hb GW394 HB_; replace HB := HB_; clear hb hg) | ((refine gd_ 4 ?_); refine by_ 4 #[.int .i64 0, .int .i64 0, .int .i64 0, .int .i64 0] 26 HB ?_; intro gb395 hg w56 BK395 hb GW395 HB_; have NB394_395 := bm_ BK394 hg; have NB395_394 := bn_ BK394 hg; replace BK394 := bb_ BK394 hb; replace HB := HB_; clear hb hg; have hnb57 := NB394_395.out; have hnc57 := NB395_394.out; obtain ⟨hcz58_0, hcz58_1, hcz58_2, hcz58_3, hfz58_0, hfz58_1, hfz58_2, hfz58_3⟩ := ch4_ BK394) | ((refine gc_ 27 ?_); refine ge_ 11 Try.func27 #[.agg #[.int .i64 a0_0, .int .i64 a0_1, .int .i64 a0_2, .int .i64 a0_3]] ?_; (with_reducible refine (spec_l04Is.calls k a0_0 a0_1 a0_2 a0_3 true _ A3.out).mono ?_); rintro e w59 ⟨rfl, hb⟩; refine ⟨_, rfl, ?_⟩; replace BK394 := bb_ BK394 hb; replace BK395 := bb_ BK395 hb; replace HB := bt_ HB hb; (try clear hb)) | ((refine gc_ 38 ?_); refine ge_ 16 Try.func38 #[.int .i64 a1, .int .i64 (-20), .int .i64 20] ?_; (with_reducible refine (spec_l01In.calls a1 (-20) 20 false _ A5.out).mono ?_); rintro e w' ⟨rfl, ⟨nd, rfl⟩⟩; refine ⟨_, rfl, ?_⟩; (try (rw [drewN_self w59]; generalize hq_ : World.drewN w59 _ = w59; replace BK394 := bq_ BK394 hq_; replace BK395 := bq_ BK395 hq_; replace HB := hq_' HB hq_; clear hq_)); obtain ⟨hcz60_0, hcz60_1, hcz60_2, hcz60_3, hfz60_0, hfz60_1, hfz60_2, hfz60_3⟩ := ch4_ BK395))
  refine bodyPost_ret (results_ct rfl _ _ gb395 26 #[.int .i64 0, .int .i64 0, .int .i64 0, .int .i64 0] (0, 0) _ rfl (bp_ BK395).out Try.underlying26 rfl (by kernel_rfl)) rfl ?_
  exact ⟨es_, (bw_ HB).out⟩
 simp only [Option.some.injEq, Prod.mk.injEq] at H
 obtain ⟨rfl, rfl, rfl, rfl, rfl⟩ := H
 go_enter Try.func18, Try.ntmps18
 go_wp2_with (first | ((refine gd_ 2 ?_); refine by_ 2 #[.int .i64 a0_0, .int .i64 a0_1, .int .i64 a0_2, .int .i64 a0_3] 26 HB ?_; intro gb394 hg w61 BK394 hb GW394 HB_; replace HB := HB_; clear hb hg) | ((refine gd_ 4 ?_); refine by_ 4 #[.int .i64 0, .int .i64 0, .int .i64 0, .int .i64 0] 26 HB ?_; intro gb395 hg w62 BK395 hb GW395 HB_; have NB394_395 := bm_ BK394 hg; have NB395_394 := bn_ BK394 hg; replace BK394 := bb_ BK394 hb; replace HB := HB_; clear hb hg; have hnb63 := NB394_395.out; have hnc63 := NB395_394.out; obtain ⟨hcz64_0, hcz64_1, hcz64_2, hcz64_3, hfz64_0, hfz64_1, hfz64_2, hfz64_3⟩ := ch4_ BK394) | ((refine gc_ 27 ?_); refine ge_ 11 Try.func27 #[.agg #[.int .i64 a0_0, .int .i64 a0_1, .int .i64 a0_2, .int .i64 a0_3]] ?_; (with_reducible refine (spec_l04Is.calls k a0_0 a0_1 a0_2 a0_3 false _ A3.out).mono ?_); rintro e w65 ⟨rfl, hb⟩; refine ⟨_, rfl, ?_⟩; replace BK394 := bb_ BK394 hb; replace BK395 := bb_ BK395 hb; replace HB := bt_ HB hb; (try clear hb); obtain ⟨hcz66_0, hcz66_1, hcz66_2, hcz66_3, hfz66_0, hfz66_1, hfz66_2, hfz66_3⟩ := ch4_ BK395))
 refine bodyPost_ret (results_ct rfl _ _ gb395 26 #[.int .i64 0, .int .i64 0, .int .i64 0, .int .i64 0] (0, 0) _ rfl (bp_ BK395).out Try.underlying26 rfl (by kernel_rfl)) rfl ?_
 exact ⟨es_, (bw_ HB).out⟩
end Go.Proofs.Yteniblbnmcfmjaa.QM
