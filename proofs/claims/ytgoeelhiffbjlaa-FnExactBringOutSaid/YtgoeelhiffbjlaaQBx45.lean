import Derived.Test.YtgoeelhiffbjlaaQBx43
namespace Go.Proofs.Ytgoeelhiffbjlaa.QB
set_option maxHeartbeats 8000000
set_option maxRecDepth 100000
open Go.RowKit YtgoeelhiffbjlaaW.PrintWords YtgoeelhiffbjlaaW.PrintLast YtgoeelhiffbjlaaW.PrintMore
attribute [local go_sem] isSome_setCell max2_int min2_int max_two min_two max_three min_three max_four min_four
set_option linter.unusedVariables false
set_option linter.unusedSimpArgs false
mutual
def impl_reduced.j0 : Nat → Int → Bool → Int → Int → Int → Int → Option (Int × Int × Int × Int × Bool)
 | 0, _, _, _, _, _, _ => none
 | k + 1, x4, x37, x307000, x307001, x307002, x307003 => if x37 = true then (impl_reduced.j1 k (wrap64 (-x4)) x307000 x307001 x307002 x307003) else (impl_reduced.j1 k x4 x307000 x307001 x307002 x307003)
def impl_reduced.j1 : Nat → Int → Int → Int → Int → Int → Option (Int × Int × Int × Int × Bool)
 | 0, _, _, _, _, _ => none
 | k + 1, x4, x307000, x307001, x307002, x307003 => impl_reduced.l0 k x4 0 x307000 x307001 x307002 x307003
def impl_reduced.l0 : Nat → Int → Int → Int → Int → Int → Int → Option (Int × Int × Int × Int × Bool)
 | 0, _, _, _, _, _, _ => none
 | k + 1, x4, x40, x307000, x307001, x307002, x307003 => if x40 < 2 then (impl_reduced.l1 k x4 x40 x40 0 x307000 x307001 x307002 x307003) else ((impl_IsMatrix.f k x307000 x307001 x307002 x307003).bind fun t311 => (some (x307000, x307001, x307002, x307003, t311)))
def impl_reduced.l1 : Nat → Int → Int → Int → Int → Int → Int → Int → Int → Option (Int × Int × Int × Int × Bool)
 | 0, _, _, _, _, _, _, _, _ => none
 | k + 1, x4, x5, x40, x43, x307000, x307001, x307002, x307003 => if x43 < 2 then (if x5 = 0 then (if x43 = 0 then (if x4 = 0 then (none) else (impl_reduced.l1 k x4 x5 x40 (wrap64 (x43 + 1)) (wrap64 (Int.tdiv x307000 x4)) x307001 x307002 x307003)) else (if x43 = 1 then (if x4 = 0 then (none) else (impl_reduced.l1 k x4 x5 x40 (wrap64 (x43 + 1)) x307000 (wrap64 (Int.tdiv x307001 x4)) x307002 x307003)) else (none))) else (if x5 = 1 then (if x43 = 0 then (if x4 = 0 then (none) else (impl_reduced.l1 k x4 x5 x40 (wrap64 (x43 + 1)) x307000 x307001 (wrap64 (Int.tdiv x307002 x4)) x307003)) else (if x43 = 1 then (if x4 = 0 then (none) else (impl_reduced.l1 k x4 x5 x40 (wrap64 (x43 + 1)) x307000 x307001 x307002 (wrap64 (Int.tdiv x307003 x4)))) else (none))) else (none))) else (impl_reduced.l0 k x4 (wrap64 (x40 + 1)) x307000 x307001 x307002 x307003)
end
def impl_reduced.f (k : Nat) (a0_0 a0_1 a0_2 a0_3 : Int) : Option (Int × Int × Int × Int × Bool) := (impl_gcd.f k a0_0 a0_1).bind fun t308 => ((impl_gcd.f k a0_2 a0_3).bind fun t309 => ((impl_gcd.f k t308 t309).bind fun t310 => (if a0_0 < 0 then (impl_reduced.j0 k t310 true a0_0 a0_1 a0_2 a0_3) else (if a0_0 = 0 then (impl_reduced.j0 k t310 (decide (a0_1 < 0)) a0_0 a0_1 a0_2 a0_3) else (impl_reduced.j0 k t310 false a0_0 a0_1 a0_2 a0_3)))))
def impl_reduced.T1 : Bool × List (List Nat × List Nat) := (true, [([], []), ([0], [0]), ([1], [1]), ([], []), ([3], [3]), ([4], [4]), ([2, 5], [2, 5]), ([], []), ([7], [7]), ([8], [8]), ([], []), ([10], [10]), ([11], [11]), ([9, 12, 6], [9, 12]), ([6, 13, 13], [6, 13]), ([14, 14, 0, 1, 2, 3, 4, 5, 6, 7, 8, 9, 10, 11, 12, 13, 14], [14])])
def impl_reduced.B1 : List Nat := [0, 1, 3, 0, 8, 24, 63, 0, 128, 384, 0, 1024, 3072, 8191, 16383, 32767]
theorem impl_reduced.tab1 : rtab .any (opsOf Try.f160 1) = impl_reduced.T1 := by kernel_rfl
theorem impl_reduced.bits1 : waitsOk impl_reduced.T1.2 impl_reduced.B1 = true := by kernel_rfl
def impl_reduced.T10 : Bool × List (List Nat × List Nat) := (true, [([], []), ([], []), ([0], [0]), ([2, 1], [1, 2]), ([3], [3]), ([], []), ([4, 5], [4, 5]), ([0], [0]), ([7, 1, 0, 1, 2, 3, 4, 5, 6], [1, 7]), ([8, 6, 0, 1, 2, 3, 4, 5, 6], [6, 8])])
def impl_reduced.B10 : List Nat := [0, 0, 1, 7, 15, 0, 63, 1, 255, 511]
theorem impl_reduced.tab10 : rtab .any (opsOf Try.f160 10) = impl_reduced.T10 := by kernel_rfl
theorem impl_reduced.bits10 : waitsOk impl_reduced.T10.2 impl_reduced.B10 = true := by kernel_rfl
theorem impl_reduced.calls (k : Nat) (a0_0 a0_1 a0_2 a0_3 r1 r2 r3 r4 : Int) (r5 : Bool) (w : World) (h : impl_reduced.f k a0_0 a0_1 a0_2 a0_3 = some (r1, r2, r3, r4, r5)) :
  Calls Try.prog 160 #[.agg #[.int .i64 a0_0, .int .i64 a0_1, .int .i64 a0_2, .int .i64 a0_3]] w fun e w' => e = .returned (.tuple #[.agg #[.int .i64 r1, .int .i64 r2, .int .i64 r3, .int .i64 r4], .bool r5]) ∧ Below w.heap.size w w' := by
 have hu46 := Try.underlying46
 have hu44 := Try.underlying44
 have HB := Aside0.mk (Below.refl w.heap.size w)
 unfold impl_reduced.f at h
 have H := h
 clear h
 replace H := oc_ H
 obtain ⟨t308, A2, H⟩ := H
 replace H := oc_ H
 obtain ⟨t309, A3, H⟩ := H
 replace H := oc_ H
 obtain ⟨t310, A4, H⟩ := H
 have HC5 := Aside0.mk H
 clear H
 go_enter Try.func160, Try.ntmps160
 try go_wp2_with (first | ((refine gd_ 1 ?_); refine by_ 1 #[.int .i64 a0_0, .int .i64 a0_1, .int .i64 a0_2, .int .i64 a0_3] 46 HB ?_; intro gb306 hg w6 BK306 hb GW306 HB_; replace HB := HB_; clear hb hg) | ((refine gd_ 2 ?_); refine by_ 2 #[.int .i64 0, .int .i64 0, .int .i64 0, .int .i64 0] 46 HB ?_; intro gb307 hg w7 BK307 hb GW307 HB_; have NB306_307 := bm_ BK306 hg; have NB307_306 := bn_ BK306 hg; replace BK306 := bb_ BK306 hb; replace HB := HB_; clear hb hg))
 replace BK306 := bd_ BK306
 replace BK307 := bd_ BK307
 replace HB := be_ HB
 refine start_ (n := 16) (S := fun w' => w'.cell? ⟨gb306, 0, none⟩ = some (.int .i64 a0_0) ∧ w'.cell? ⟨gb306, 1, none⟩ = some (.int .i64 a0_1) ∧ w'.cell? ⟨gb306, 2, none⟩ = some (.int .i64 a0_2) ∧ w'.cell? ⟨gb306, 3, none⟩ = some (.int .i64 a0_3)) (ds := []) (bv_ 16 0) (by kernel_rfl) rfl rfl ⟨cz_ BK306 0, cz_ BK306 1, cz_ BK306 2, cz_ BK306 3⟩ (fun hHeld => ?_); refine with_tabW impl_reduced.tab1 impl_reduced.bits1 (fun HT_ HW_ => ?_)
 generalize w7.drew = w8 at BK306 BK307 HB hHeld ⊢
 refine px_ HT_ 0 7 1 ?_
 refine px_ HT_ 1 8 3 ?_
 refine px_ HT_ 3 10 11 ?_
 refine px_ HT_ 4 11 27 ?_
 refine px_ HT_ 7 14 155 ?_
 refine px_ HT_ 8 15 411 ?_
 refine px_ HT_ 10 17 1435 ?_
 refine px_ HT_ 11 18 3483 ?_
 refine ta_ HT_ HW_ 2 (some 9) (bv_ 16 3487) hHeld ?_ (hy := by rintro w' ⟨s0, s1, s2, s3⟩; go_simp; with_reducible rfl)
 refine ta_ HT_ HW_ 5 (some 12) (bv_ 16 3519) hHeld ?_ (hy := by rintro w' ⟨s0, s1, s2, s3⟩; go_simp; with_reducible rfl)
 refine ta_ HT_ HW_ 9 (some 16) (bv_ 16 4031) hHeld ?_ (hy := by rintro w' ⟨s0, s1, s2, s3⟩; go_simp; with_reducible rfl)
 refine ta_ HT_ HW_ 12 (some 19) (bv_ 16 8127) hHeld ?_ (hy := by rintro w' ⟨s0, s1, s2, s3⟩; go_simp; with_reducible rfl)
 refine on_ HT_ 6 (some 13) (bv_ 16 8191) (fun K hK => ?_)
 refine gs_ Try.func177 #[.int .i64 a0_0, .int .i64 a0_1] ?_
 with_reducible refine (impl_gcd.calls k a0_0 a0_1 t308 _ A2.out).mono ?_
 rintro e w9 ⟨rfl, hb⟩
 refine ⟨_, rfl, ?_⟩
 replace BK306 := bb_ BK306 hb
 replace BK307 := bb_ BK307 hb
 replace HB := bt_ HB hb
 try clear hb
 refine hK.out _ _ ⟨cz_ BK306 0, cz_ BK306 1, cz_ BK306 2, cz_ BK306 3⟩ (fun hHeld => ?_)
 clear hK K
 refine nm_ (some 13) ?_
 refine on_ HT_ 13 (some 20) (bv_ 16 16383) (fun K hK => ?_)
 refine gs_ Try.func177 #[.int .i64 a0_2, .int .i64 a0_3] ?_
 with_reducible refine (impl_gcd.calls k a0_2 a0_3 t309 _ A3.out).mono ?_
 rintro e w10 ⟨rfl, hb⟩
 refine ⟨_, rfl, ?_⟩
 replace BK306 := bb_ BK306 hb
 replace BK307 := bb_ BK307 hb
 replace HB := bt_ HB hb
 try clear hb
 refine hK.out _ _ ⟨cz_ BK306 0, cz_ BK306 1, cz_ BK306 2, cz_ BK306 3⟩ (fun hHeld => ?_)
 clear hK K
 refine nm_ (some 20) ?_
 refine on_ HT_ 14 (some 21) (bv_ 16 32767) (fun K hK => ?_)
 refine gs_ Try.func177 #[.int .i64 t308, .int .i64 t309] ?_
 with_reducible refine (impl_gcd.calls k t308 t309 t310 _ A4.out).mono ?_
 rintro e w11 ⟨rfl, hb⟩
 refine ⟨_, rfl, ?_⟩
 replace BK306 := bb_ BK306 hb
 replace BK307 := bb_ BK307 hb
 replace HB := bt_ HB hb
 try clear hb
 refine hK.out _ _ ⟨cz_ BK306 0, cz_ BK306 1, cz_ BK306 2, cz_ BK306 3⟩ (fun hHeld => ?_)
 clear hK K
 refine nm_ (some 21) ?_
 refine px_ HT_ 15 4 65535 ?_
 refine done_ (done_of HT_.out (by kernel_rfl)) ?_
 go_upto_region 2 with (fail)
 go_cut [37] (fun v37 wc => ∃ (kq : Nat) (x37_4 : Bool), v37 = .bool x37_4 ∧ Aside0 (impl_reduced.j0 kq t310 x37_4 a0_0 a0_1 a0_2 a0_3 = some (r1, r2, r3, r4, r5)) ∧ Aside0 (kq ≤ k) ∧ Aside0 (wc.heap[gb306]? = some (.cells #[.int .i64 a0_0, .int .i64 a0_1, .int .i64 a0_2, .int .i64 a0_3] 46 (0, 0))) ∧ Aside0 (wc.heap[gb307]? = some (.cells #[.int .i64 0, .int .i64 0, .int .i64 0, .int .i64 0] 46 (0, 0))) ∧ Aside0 (Below w.heap.size w wc))
 case first =>
  have H := HC5.out
  clear HC5
  replace H := il_ H
  rcases H with ⟨c12b0, H⟩ | ⟨c12b0, H⟩
  ·(first | rw [c12b0] | (simp only [i64_w, i32_w]; rw [c12b0]) | skip)
   have H' := Aside0.mk H
   clear H
   have hnb13 := NB306_307.out
   have hnc13 := NB307_306.out
   obtain ⟨hcz14_0, hcz14_1, hcz14_2, hcz14_3, hfz14_0, hfz14_1, hfz14_2, hfz14_3⟩ := ch4_ BK306
   go_wp2
   go_meet
   case rel => exact ⟨_, (true), en_, H', ⟨by first | omega | exact Nat.le_refl _⟩, bl_ BK306, bl_ BK307, bw_ HB⟩
  (first | rw [c12b0] | (simp only [i64_w, i32_w]; rw [c12b0]) | skip)
  replace H := ie_ H
  rcases H with ⟨c15b0, c15b1, H⟩ | ⟨c15, c15b0, c15b1, H⟩
  ·have H' := Aside0.mk H
   clear H
   have hnb16 := NB306_307.out
   have hnc16 := NB307_306.out
   obtain ⟨hcz17_0, hcz17_1, hcz17_2, hcz17_3, hfz17_0, hfz17_1, hfz17_2, hfz17_3⟩ := ch4_ BK306
   go_wp2
   go_meet
   case rel => exact ⟨_, (decide (a0_1 < 0)), en_, H', ⟨by first | omega | exact Nat.le_refl _⟩, bl_ BK306, bl_ BK307, bw_ HB⟩
  have H' := Aside0.mk H
  clear H
  have hnb18 := NB306_307.out
  have hnc18 := NB307_306.out
  obtain ⟨hcz19_0, hcz19_1, hcz19_2, hcz19_3, hfz19_0, hfz19_1, hfz19_2, hfz19_3⟩ := ch4_ BK306
  go_wp2
  go_meet
  case rel => exact ⟨_, (false), en_, H', ⟨by first | omega | exact Nat.le_refl _⟩, bl_ BK306, bl_ BK307, bw_ HB⟩
 clear HC5
 try clear c12b0
 try clear c15
 try clear c15b0
 try clear c15b1
 try clear hcz14_0 hcz14_1 hcz14_2 hcz14_3
 try clear hcz17_0 hcz17_1 hcz17_2 hcz17_3
 try clear hcz19_0 hcz19_1 hcz19_2 hcz19_3
 try clear hfz14_0 hfz14_1 hfz14_2 hfz14_3
 try clear hfz17_0 hfz17_1 hfz17_2 hfz17_3
 try clear hfz19_0 hfz19_1 hfz19_2 hfz19_3
 obtain ⟨kq, x37_4, rfl, HA, HJ4, BK306, BK307, HB⟩ := hcut
 cases kq with
 | zero => exact absurd HA.out (by simp [impl_reduced.j0])
 | succ kj4 =>
  have H := HA.out
  clear HA
  simp only [impl_reduced.j0] at H
  have HC20 := Aside0.mk H
  clear H
  go_upto_if 37 with (fail)
  go_cut [4] (fun v4 wc => ∃ (kq : Nat) (x4_19 : Int), v4 = .int .i64 x4_19 ∧ Aside0 (impl_reduced.j1 kq x4_19 a0_0 a0_1 a0_2 a0_3 = some (r1, r2, r3, r4, r5)) ∧ Aside0 (kq ≤ kj4) ∧ Aside0 (wc.heap[gb306]? = some (.cells #[.int .i64 a0_0, .int .i64 a0_1, .int .i64 a0_2, .int .i64 a0_3] 46 (0, 0))) ∧ Aside0 (wc.heap[gb307]? = some (.cells #[.int .i64 0, .int .i64 0, .int .i64 0, .int .i64 0] 46 (0, 0))) ∧ Aside0 (Below w.heap.size w wc))
  case first =>
   have H := HC20.out
   clear HC20
   replace H := ib_ H
   rcases H with ⟨rfl, H⟩ | ⟨rfl, H⟩
   ·have H' := Aside0.mk H
    clear H
    go_wp2
    go_meet
    case rel => exact ⟨_, (wrap64 (-t310)), en_, H', ⟨by have := HJ4.out; first | omega | exact Nat.le_refl _⟩, bl_ BK306, bl_ BK307, bw_ HB⟩
   have H' := Aside0.mk H
   clear H
   go_wp2
   go_meet
   case rel => exact ⟨_, (t310), en_, H', ⟨by have := HJ4.out; first | omega | exact Nat.le_refl _⟩, bl_ BK306, bl_ BK307, bw_ HB⟩
  clear HC20
  try clear c12b0
  try clear c15
  try clear c15b0
  try clear c15b1
  try clear hcz14_0 hcz14_1 hcz14_2 hcz14_3
  try clear hcz17_0 hcz17_1 hcz17_2 hcz17_3
  try clear hcz19_0 hcz19_1 hcz19_2 hcz19_3
  try clear hfz14_0 hfz14_1 hfz14_2 hfz14_3
  try clear hfz17_0 hfz17_1 hfz17_2 hfz17_3
  try clear hfz19_0 hfz19_1 hfz19_2 hfz19_3
  obtain ⟨kq, x4_19, rfl, HA, HJ19, BK306, BK307, HB⟩ := hcut
  cases kq with
  | zero => exact absurd HA.out (by simp [impl_reduced.j1])
  | succ kj19 =>
   have H := HA.out
   clear HA
   simp only [impl_reduced.j1] at H
   have H' := Aside0.mk H
   clear H
   go_wp2
   go_loopg [40] kj19 (fun kq v40 w' => ∃ (x40_3 : Int) (x307000_3 : Int) (x307001_3 : Int) (x307002_3 : Int) (x307003_3 : Int), v40 = .int .i64 x40_3 ∧ Aside0 (impl_reduced.l0 kq x4_19 x40_3 x307000_3 x307001_3 x307002_3 x307003_3 = some (r1, r2, r3, r4, r5)) ∧ Aside0 (kq ≤ kj19) ∧ Aside0 (w'.heap[gb306]? = some (.cells #[.int .i64 x307000_3, .int .i64 x307001_3, .int .i64 x307002_3, .int .i64 x307003_3] 46 (0, 0))) ∧ Aside0 (w'.heap[gb307]? = some (.cells #[.int .i64 0, .int .i64 0, .int .i64 0, .int .i64 0] 46 (0, 0))) ∧ Aside0 (Below w.heap.size w w'))
   case atStart => exact ⟨(0), (a0_0), (a0_1), (a0_2), (a0_3), en_, H', ⟨Nat.le_refl _⟩, bl_ BK306, bl_ BK307, bw_ HB⟩
   clear H'
   try clear c12b0
   try clear c15
   try clear c15b0
   try clear c15b1
   try clear hcz14_0 hcz14_1 hcz14_2 hcz14_3
   try clear hcz17_0 hcz17_1 hcz17_2 hcz17_3
   try clear hcz19_0 hcz19_1 hcz19_2 hcz19_3
   try clear hfz14_0 hfz14_1 hfz14_2 hfz14_3
   try clear hfz17_0 hfz17_1 hfz17_2 hfz17_3
   try clear hfz19_0 hfz19_1 hfz19_2 hfz19_3
   obtain ⟨x40_3, x307000_3, x307001_3, x307002_3, x307003_3, rfl, HA, HK3, BK306, BK307, HB⟩ := hrel
   cases gk with
   | zero => exact absurd HA.out (by simp [impl_reduced.l0])
   | succ k3 =>
    have H := HA.out
    clear HA
    simp only [impl_reduced.l0] at H
    replace H := il_ H
    rcases H with ⟨c22b0, H⟩ | ⟨c22b0, H⟩
    ·have H' := Aside0.mk H
     clear H
     go_wp2
     go_loopg [43] k3 (fun kq v43 w' => ∃ (x43_4 : Int) (x307000_4 : Int) (x307001_4 : Int) (x307002_4 : Int) (x307003_4 : Int), v43 = .int .i64 x43_4 ∧ Aside0 (impl_reduced.l1 kq x4_19 x40_3 x40_3 x43_4 x307000_4 x307001_4 x307002_4 x307003_4 = some (r1, r2, r3, r4, r5)) ∧ Aside0 (kq ≤ k3) ∧ Aside0 (w'.heap[gb306]? = some (.cells #[.int .i64 x307000_4, .int .i64 x307001_4, .int .i64 x307002_4, .int .i64 x307003_4] 46 (0, 0))) ∧ Aside0 (w'.heap[gb307]? = some (.cells #[.int .i64 0, .int .i64 0, .int .i64 0, .int .i64 0] 46 (0, 0))) ∧ Aside0 (Below w.heap.size w w'))
     case atStart => exact ⟨(0), (x307000_3), (x307001_3), (x307002_3), (x307003_3), en_, H', ⟨Nat.le_refl _⟩, bl_ BK306, bl_ BK307, bw_ HB⟩
     clear H'
     try clear c12b0
     try clear c15
     try clear c15b0
     try clear c15b1
     try clear c22b0
     try clear hcz14_0 hcz14_1 hcz14_2 hcz14_3
     try clear hcz17_0 hcz17_1 hcz17_2 hcz17_3
     try clear hcz19_0 hcz19_1 hcz19_2 hcz19_3
     try clear hfz14_0 hfz14_1 hfz14_2 hfz14_3
     try clear hfz17_0 hfz17_1 hfz17_2 hfz17_3
     try clear hfz19_0 hfz19_1 hfz19_2 hfz19_3
     obtain ⟨x43_4, x307000_4, x307001_4, x307002_4, x307003_4, rfl, HA, HK4, BK306, BK307, HB⟩ := hrel
     cases gk with
     | zero => exact absurd HA.out (by simp [impl_reduced.l1])
     | succ k4 =>
      have H := HA.out
      clear HA
      simp only [impl_reduced.l1] at H
      replace H := il_ H
      rcases H with ⟨c23b0, H⟩ | ⟨c23b0, H⟩
      ·by_cases c24 : x40_3 = 0
       ·subst c24
        replace H := i1_ H
        by_cases c25 : x43_4 = 0
        ·subst c25
         replace H := i1_ H
         replace H := ief_ H
         obtain ⟨c26, c26b0, c26b1, H⟩ := H
         have H' := Aside0.mk H
         clear H
         try go_wp2
         replace BK306 := bd_ BK306
         replace BK307 := bd_ BK307
         replace HB := be_ HB
         refine start_ (n := 10) (S := fun w' => w'.cell? ⟨gb306, 0, none⟩ = some (.int .i64 x307000_4) ∧ w'.cell? ⟨gb306, 1, none⟩ = some (.int .i64 x307001_4) ∧ w'.cell? ⟨gb306, 2, none⟩ = some (.int .i64 x307002_4) ∧ w'.cell? ⟨gb306, 3, none⟩ = some (.int .i64 x307003_4)) (ds := [9]) (bv_ 10 0) (by kernel_rfl) rfl rfl ⟨cz_ BK306 0, cz_ BK306 1, cz_ BK306 2, cz_ BK306 3⟩ (fun hHeld => ?_); refine with_tabW impl_reduced.tab10 impl_reduced.bits10 (fun HT_ HW_ => ?_)
         generalize wr.drew = w27 at BK306 BK307 HB hHeld ⊢
         refine px_ HT_ 0 46 1 ?_
         refine px_ HT_ 1 47 3 ?_
         refine px_ HT_ 2 48 7 ?_
         refine px_ HT_ 3 49 15 ?_
         refine px_ HT_ 5 51 47 ?_
         refine px_ HT_ 7 53 175 ?_
         refine ta_ HT_ HW_ 4 (some 50) (bv_ 10 191) hHeld ?_ (hy := by rintro w' ⟨s0, s1, s2, s3⟩; go_simp; with_reducible rfl)
         refine px_ HT_ 6 52 255 ?_
         refine px_ HT_ 8 54 511 ?_
         refine last_ (i := 9) (N := none) (bv_ 10 1023) rfl rfl (one_of HT_.out (by kernel_rfl)) (by decide) (fun K hK => ?_)
         have hs28 : w27.cell? ⟨gb306, 0, none⟩ = some (.int .i64 x307000_4) := (blk_cell BK306.out 0).trans rfl
         have hfs28 := blk_frozen BK306.out 0
         have hns28_1 := NB307_306.out
         have hms28_1 := NB306_307.out
         refine skip_ (w1 := ?_) (by rfl) rfl ?_ ?_
         rotate_left
         ·go_simp
          rfl
         refine hK.out _ _ ?_
         clear hK K
         refine done_ (done_of HT_.out (by kernel_rfl)) ?_
         try go_wp2
         go_roundg k4
         case measure => have := HJ4.out; have := HJ19.out; have := HK3.out; have := HK4.out; omega
         case rel => exact ⟨(wrap64 (0 + 1)), (wrap64 (Int.tdiv x307000_4 x4_19)), (x307001_4), (x307002_4), (x307003_4), en_, H', ⟨by have := HJ4.out; have := HJ19.out; have := HK3.out; have := HK4.out; omega⟩, bp_ BK306, fl_ BK307 NB307_306, bw_ HB⟩
        rw [if_neg c25] at H
        have c25b0 : (x43_4 == 0) = false := beq_eq_false_iff_ne.mpr c25
        have c25b1 : (x43_4 != 0) = true := bne_iff_ne.mpr c25
        by_cases c29 : x43_4 = 1
        ·subst c29
         replace H := i1_ H
         replace H := ief_ H
         obtain ⟨c30, c30b0, c30b1, H⟩ := H
         have H' := Aside0.mk H
         clear H
         try go_wp2
         replace BK306 := bd_ BK306
         replace BK307 := bd_ BK307
         replace HB := be_ HB
         refine start_ (n := 10) (S := fun w' => w'.cell? ⟨gb306, 0, none⟩ = some (.int .i64 x307000_4) ∧ w'.cell? ⟨gb306, 1, none⟩ = some (.int .i64 x307001_4) ∧ w'.cell? ⟨gb306, 2, none⟩ = some (.int .i64 x307002_4) ∧ w'.cell? ⟨gb306, 3, none⟩ = some (.int .i64 x307003_4)) (ds := [9]) (bv_ 10 0) (by kernel_rfl) rfl rfl ⟨cz_ BK306 0, cz_ BK306 1, cz_ BK306 2, cz_ BK306 3⟩ (fun hHeld => ?_); refine with_tabW impl_reduced.tab10 impl_reduced.bits10 (fun HT_ HW_ => ?_)
         generalize wr.drew = w31 at BK306 BK307 HB hHeld ⊢
         refine px_ HT_ 0 46 1 ?_
         refine px_ HT_ 1 47 3 ?_
         refine px_ HT_ 2 48 7 ?_
         refine px_ HT_ 3 49 15 ?_
         refine px_ HT_ 5 51 47 ?_
         refine px_ HT_ 7 53 175 ?_
         refine ta_ HT_ HW_ 4 (some 50) (bv_ 10 191) hHeld ?_ (hy := by rintro w' ⟨s0, s1, s2, s3⟩; go_simp; with_reducible rfl)
         refine px_ HT_ 6 52 255 ?_
         refine px_ HT_ 8 54 511 ?_
         refine last_ (i := 9) (N := none) (bv_ 10 1023) rfl rfl (one_of HT_.out (by kernel_rfl)) (by decide) (fun K hK => ?_)
         have hs32 : w31.cell? ⟨gb306, 1, none⟩ = some (.int .i64 x307001_4) := (blk_cell BK306.out 1).trans rfl
         have hfs32 := blk_frozen BK306.out 1
         have hns32_1 := NB307_306.out
         have hms32_1 := NB306_307.out
         refine skip_ (w1 := ?_) (by rfl) rfl ?_ ?_
         rotate_left
         ·go_simp
          rfl
         refine hK.out _ _ ?_
         clear hK K
         refine done_ (done_of HT_.out (by kernel_rfl)) ?_
         try go_wp2
         go_roundg k4
         case measure => have := HJ4.out; have := HJ19.out; have := HK3.out; have := HK4.out; omega
         case rel => exact ⟨(wrap64 (1 + 1)), (x307000_4), (wrap64 (Int.tdiv x307001_4 x4_19)), (x307002_4), (x307003_4), en_, H', ⟨by have := HJ4.out; have := HJ19.out; have := HK3.out; have := HK4.out; omega⟩, bp_ BK306, fl_ BK307 NB307_306, bw_ HB⟩
        rw [if_neg c29] at H
        exact absurd H (by simp)
       rw [if_neg c24] at H
       have c24b0 : (x40_3 == 0) = false := beq_eq_false_iff_ne.mpr c24
       have c24b1 : (x40_3 != 0) = true := bne_iff_ne.mpr c24
       by_cases c33 : x40_3 = 1
       ·subst c33
        replace H := i1_ H
        by_cases c34 : x43_4 = 0
        ·subst c34
         replace H := i1_ H
         replace H := ief_ H
         obtain ⟨c35, c35b0, c35b1, H⟩ := H
         have H' := Aside0.mk H
         clear H
         try go_wp2
         replace BK306 := bd_ BK306
         replace BK307 := bd_ BK307
         replace HB := be_ HB
         refine start_ (n := 10) (S := fun w' => w'.cell? ⟨gb306, 0, none⟩ = some (.int .i64 x307000_4) ∧ w'.cell? ⟨gb306, 1, none⟩ = some (.int .i64 x307001_4) ∧ w'.cell? ⟨gb306, 2, none⟩ = some (.int .i64 x307002_4) ∧ w'.cell? ⟨gb306, 3, none⟩ = some (.int .i64 x307003_4)) (ds := [9]) (bv_ 10 0) (by kernel_rfl) rfl rfl ⟨cz_ BK306 0, cz_ BK306 1, cz_ BK306 2, cz_ BK306 3⟩ (fun hHeld => ?_); refine with_tabW impl_reduced.tab10 impl_reduced.bits10 (fun HT_ HW_ => ?_)
         generalize wr.drew = w36 at BK306 BK307 HB hHeld ⊢
         refine px_ HT_ 0 46 1 ?_
         refine px_ HT_ 1 47 3 ?_
         refine px_ HT_ 2 48 7 ?_
         refine px_ HT_ 3 49 15 ?_
         refine px_ HT_ 5 51 47 ?_
         refine px_ HT_ 7 53 175 ?_
         refine ta_ HT_ HW_ 4 (some 50) (bv_ 10 191) hHeld ?_ (hy := by rintro w' ⟨s0, s1, s2, s3⟩; go_simp; with_reducible rfl)
         refine px_ HT_ 6 52 255 ?_
         refine px_ HT_ 8 54 511 ?_
         refine last_ (i := 9) (N := none) (bv_ 10 1023) rfl rfl (one_of HT_.out (by kernel_rfl)) (by decide) (fun K hK => ?_)
         have hs37 : w36.cell? ⟨gb306, 2, none⟩ = some (.int .i64 x307002_4) := (blk_cell BK306.out 2).trans rfl
         have hfs37 := blk_frozen BK306.out 2
         have hns37_1 := NB307_306.out
         have hms37_1 := NB306_307.out
         refine skip_ (w1 := ?_) (by rfl) rfl ?_ ?_
         rotate_left
         ·go_simp
          rfl
         refine hK.out _ _ ?_
         clear hK K
         refine done_ (done_of HT_.out (by kernel_rfl)) ?_
         try go_wp2
         go_roundg k4
         case measure => have := HJ4.out; have := HJ19.out; have := HK3.out; have := HK4.out; omega
         case rel => exact ⟨(wrap64 (0 + 1)), (x307000_4), (x307001_4), (wrap64 (Int.tdiv x307002_4 x4_19)), (x307003_4), en_, H', ⟨by have := HJ4.out; have := HJ19.out; have := HK3.out; have := HK4.out; omega⟩, bp_ BK306, fl_ BK307 NB307_306, bw_ HB⟩
        rw [if_neg c34] at H
        have c34b0 : (x43_4 == 0) = false := beq_eq_false_iff_ne.mpr c34
        have c34b1 : (x43_4 != 0) = true := bne_iff_ne.mpr c34
        by_cases c38 : x43_4 = 1
        ·subst c38
         replace H := i1_ H
         replace H := ief_ H
         obtain ⟨c39, c39b0, c39b1, H⟩ := H
         have H' := Aside0.mk H
         clear H
         try go_wp2
         replace BK306 := bd_ BK306
         replace BK307 := bd_ BK307
         replace HB := be_ HB
         refine start_ (n := 10) (S := fun w' => w'.cell? ⟨gb306, 0, none⟩ = some (.int .i64 x307000_4) ∧ w'.cell? ⟨gb306, 1, none⟩ = some (.int .i64 x307001_4) ∧ w'.cell? ⟨gb306, 2, none⟩ = some (.int .i64 x307002_4) ∧ w'.cell? ⟨gb306, 3, none⟩ = some (.int .i64 x307003_4)) (ds := [9]) (bv_ 10 0) (by kernel_rfl) rfl rfl ⟨cz_ BK306 0, cz_ BK306 1, cz_ BK306 2, cz_ BK306 3⟩ (fun hHeld => ?_); refine with_tabW impl_reduced.tab10 impl_reduced.bits10 (fun HT_ HW_ => ?_)
         generalize wr.drew = w40 at BK306 BK307 HB hHeld ⊢
         refine px_ HT_ 0 46 1 ?_
         refine px_ HT_ 1 47 3 ?_
         refine px_ HT_ 2 48 7 ?_
         refine px_ HT_ 3 49 15 ?_
         refine px_ HT_ 5 51 47 ?_
         refine px_ HT_ 7 53 175 ?_
         refine ta_ HT_ HW_ 4 (some 50) (bv_ 10 191) hHeld ?_ (hy := by rintro w' ⟨s0, s1, s2, s3⟩; go_simp; with_reducible rfl)
         refine px_ HT_ 6 52 255 ?_
         refine px_ HT_ 8 54 511 ?_
         refine last_ (i := 9) (N := none) (bv_ 10 1023) rfl rfl (one_of HT_.out (by kernel_rfl)) (by decide) (fun K hK => ?_)
         have hs41 : w40.cell? ⟨gb306, 3, none⟩ = some (.int .i64 x307003_4) := (blk_cell BK306.out 3).trans rfl
         have hfs41 := blk_frozen BK306.out 3
         have hns41_1 := NB307_306.out
         have hms41_1 := NB306_307.out
         refine skip_ (w1 := ?_) (by rfl) rfl ?_ ?_
         rotate_left
         ·go_simp
          rfl
         refine hK.out _ _ ?_
         clear hK K
         refine done_ (done_of HT_.out (by kernel_rfl)) ?_
         try go_wp2
         go_roundg k4
         case measure => have := HJ4.out; have := HJ19.out; have := HK3.out; have := HK4.out; omega
         case rel => exact ⟨(wrap64 (1 + 1)), (x307000_4), (x307001_4), (x307002_4), (wrap64 (Int.tdiv x307003_4 x4_19)), en_, H', ⟨by have := HJ4.out; have := HJ19.out; have := HK3.out; have := HK4.out; omega⟩, bp_ BK306, fl_ BK307 NB307_306, bw_ HB⟩
        rw [if_neg c38] at H
        exact absurd H (by simp)
       rw [if_neg c33] at H
       exact absurd H (by simp)
      have H' := Aside0.mk H
      clear H
      go_wp2
      go_roundg k4
      case measure => have := HJ4.out; have := HJ19.out; have := HK3.out; have := HK4.out; omega
      case rel => exact ⟨(wrap64 (x40_3 + 1)), (x307000_4), (x307001_4), (x307002_4), (x307003_4), en_, H', ⟨by have := HJ4.out; have := HJ19.out; have := HK3.out; have := HK4.out; omega⟩, bl_ BK306, bl_ BK307, bw_ HB⟩
    replace H := oc_ H
    obtain ⟨t311, A42, H⟩ := H
    simp only [Option.some.injEq, Prod.mk.injEq] at H
    obtain ⟨rfl, rfl, rfl, rfl, rfl⟩ := H
    try go_wp2
    replace BK306 := bd_ BK306
    replace BK307 := bd_ BK307
    replace HB := be_ HB
    refine start_ (n := 5) (S := fun w' => w'.cell? ⟨gb306, 0, none⟩ = some (.int .i64 x307000_3) ∧ w'.cell? ⟨gb306, 1, none⟩ = some (.int .i64 x307001_3) ∧ w'.cell? ⟨gb306, 2, none⟩ = some (.int .i64 x307002_3) ∧ w'.cell? ⟨gb306, 3, none⟩ = some (.int .i64 x307003_3)) (ds := []) (bv_ 5 0) (by kernel_rfl) rfl rfl ⟨cz_ BK306 0, cz_ BK306 1, cz_ BK306 2, cz_ BK306 3⟩ (fun hHeld => ?_)
    generalize wr.drew = w43 at BK306 BK307 HB hHeld ⊢
    refine take_ (i := 0) (N := some 57) (v := ?_) (a' := ?_) (bv_ 5 1) rfl rfl (by kernel_rfl) (fun _ _ _ h => h) (Or.inl ⟨by rfl, ?_⟩) hHeld ?_ ?_
    rotate_left
    ·rintro w' ⟨s0, s1, s2, s3⟩
     go_simp
     with_reducible rfl
    rotate_left
    ·simp only [Act.put, lstS, lstZ, lstC, i64_w, i32_w]
     rfl
    refine take_ (i := 1) (N := some 58) (v := ?_) (a' := ?_) (bv_ 5 3) rfl rfl (by kernel_rfl) (fun _ _ _ h => h) (Or.inl ⟨by rfl, ?_⟩) hHeld ?_ ?_
    rotate_left
    ·rintro w' ⟨s0, s1, s2, s3⟩
     go_simp
     with_reducible rfl
    rotate_left
    ·simp only [Act.put, lstS, lstZ, lstC, i64_w, i32_w]
     rfl
    refine one_ (i := 2) (N := some 59) (bv_ 5 7) rfl rfl (by kernel_rfl) (by decide) (fun K hK => ?_)
    refine gs_ Try.func29 #[.agg #[.int .i64 x307000_3, .int .i64 x307001_3, .int .i64 x307002_3, .int .i64 x307003_3]] ?_
    with_reducible refine (impl_IsMatrix.calls k3 x307000_3 x307001_3 x307002_3 x307003_3 t311 _ A42.out).mono ?_
    rintro e w44 ⟨rfl, hb⟩
    refine ⟨_, rfl, ?_⟩
    replace BK306 := bb_ BK306 hb
    replace BK307 := bb_ BK307 hb
    replace HB := bt_ HB hb
    try clear hb
    refine hK.out _ _ ⟨cz_ BK306 0, cz_ BK306 1, cz_ BK306 2, cz_ BK306 3⟩ (fun hHeld => ?_)
    clear hK K
    refine nm_ (some 59) ?_
    refine one_ (i := 3) (N := none) (bv_ 5 15) rfl rfl (by kernel_rfl) (by decide) (fun K hK => ?_)
    have hs45 : w44.cell? ⟨gb307, 0, none⟩ = some (.int .i64 0) := (blk_cell BK307.out 0).trans rfl
    have hfs45 := blk_frozen BK307.out 0
    have hns45_0 := NB306_307.out
    have hms45_0 := NB307_306.out
    have hs46 : w44.cell? ⟨gb307, 1, none⟩ = some (.int .i64 0) := (blk_cell BK307.out 1).trans rfl
    have hfs46 := blk_frozen BK307.out 1
    have hns46_0 := NB306_307.out
    have hms46_0 := NB307_306.out
    have hs47 : w44.cell? ⟨gb307, 2, none⟩ = some (.int .i64 0) := (blk_cell BK307.out 2).trans rfl
    have hfs47 := blk_frozen BK307.out 2
    have hns47_0 := NB306_307.out
    have hms47_0 := NB307_306.out
    have hs48 : w44.cell? ⟨gb307, 3, none⟩ = some (.int .i64 0) := (blk_cell BK307.out 3).trans rfl
    have hfs48 := blk_frozen BK307.out 3
    have hns48_0 := NB306_307.out
    have hms48_0 := NB307_306.out
    refine skip_ (w1 := ?_) (by rfl) rfl ?_ ?_
    rotate_left
    ·go_simp
     rfl
    refine hK.out _ _ ⟨(cg_ NB306_307 ((cg_ NB306_307 ((cg_ NB306_307 ((cg_ NB306_307 (hHeld.1)))))))), (cg_ NB306_307 ((cg_ NB306_307 ((cg_ NB306_307 ((cg_ NB306_307 (hHeld.2.1)))))))), (cg_ NB306_307 ((cg_ NB306_307 ((cg_ NB306_307 ((cg_ NB306_307 (hHeld.2.2.1)))))))), (cg_ NB306_307 ((cg_ NB306_307 ((cg_ NB306_307 ((cg_ NB306_307 (hHeld.2.2.2))))))))⟩ (fun hHeld => ?_)
    clear hK K
    refine pure_ (i := 4) (N := some 3) (v := ?_) (a' := ?_) (bv_ 5 31) rfl rfl (by kernel_rfl) (fun _ _ _ h => h) (Or.inl ⟨by rfl, ?_⟩) ?_ ?_
    rotate_left
    ·intro w'
     go_simp
     with_reducible rfl
    rotate_left
    ·simp only [Act.put, lstS, lstZ, lstC, i64_w, i32_w]
     rfl
    refine done_ (by kernel_rfl) ?_
    try go_wp2
    refine bodyPost_ret (results_ct rfl _ _ gb307 46 #[.int .i64 x307000_3, .int .i64 x307001_3, .int .i64 x307002_3, .int .i64 x307003_3] (0, 0) _ rfl (bp_ BK307).out Try.underlying46 rfl (by kernel_rfl)) rfl ?_
    exact ⟨es_, (bw_ HB).out⟩
def impl_reduce.f (k : Nat) (a0_0 a0_1 a0_2 a0_3 : Int) : Option (Int × Int × Int × Int) := (impl_reduced.f k a0_0 a0_1 a0_2 a0_3).bind fun bt314 => (some (bt314.1, bt314.2.1, bt314.2.2.1, bt314.2.2.2.1))
theorem impl_reduce.calls (k : Nat) (a0_0 a0_1 a0_2 a0_3 r1 r2 r3 r4 : Int) (w : World) (h : impl_reduce.f k a0_0 a0_1 a0_2 a0_3 = some (r1, r2, r3, r4)) :
  Calls Try.prog 105 #[.agg #[.int .i64 a0_0, .int .i64 a0_1, .int .i64 a0_2, .int .i64 a0_3]] w fun e w' => e = .returned (.agg #[.int .i64 r1, .int .i64 r2, .int .i64 r3, .int .i64 r4]) ∧ Below w.heap.size w w' := by
 have hu46 := Try.underlying46
 have HB := Aside0.mk (Below.refl w.heap.size w)
 unfold impl_reduce.f at h
 have H := h
 clear h
 replace H := oc_ H
 obtain ⟨⟨t314, t315, t316, t317, t318⟩, A2, H⟩ := H
 simp only [Option.some.injEq, Prod.mk.injEq] at H
 obtain ⟨rfl, rfl, rfl, rfl⟩ := H
 go_enter Try.func105, Try.ntmps105
 go_wp2_with (first | ((refine gd_ 1 ?_); refine by_ 1 #[.int .i64 a0_0, .int .i64 a0_1, .int .i64 a0_2, .int .i64 a0_3] 46 HB ?_; intro gb312 hg w3 BK312 hb GW312 HB_; replace HB := HB_; clear hb hg) | ((refine gd_ 2 ?_); refine by_ 2 #[.int .i64 0, .int .i64 0, .int .i64 0, .int .i64 0] 46 HB ?_; intro gb313 hg w4 BK313 hb GW313 HB_; have NB312_313 := bm_ BK312 hg; have NB313_312 := bn_ BK312 hg; replace BK312 := bb_ BK312 hb; replace HB := HB_; clear hb hg; have hnb5 := NB312_313.out; have hnc5 := NB313_312.out; obtain ⟨hcz6_0, hcz6_1, hcz6_2, hcz6_3, hfz6_0, hfz6_1, hfz6_2, hfz6_3⟩ := ch4_ BK312) | ((refine gc_ 160 ?_); refine ge_ 7 Try.func160 #[.agg #[.int .i64 a0_0, .int .i64 a0_1, .int .i64 a0_2, .int .i64 a0_3]] ?_; (with_reducible refine (impl_reduced.calls k a0_0 a0_1 a0_2 a0_3 t314 t315 t316 t317 t318 _ A2.out).mono ?_); rintro e w7 ⟨rfl, hb⟩; refine ⟨_, rfl, ?_⟩; replace BK312 := bb_ BK312 hb; replace BK313 := bb_ BK313 hb; replace HB := bt_ HB hb; (try clear hb)) | ((refine gd_ 3 ?_); refine by_ 3 #[.int .i64 0, .int .i64 0, .int .i64 0, .int .i64 0] 46 HB ?_; intro gb319 hg w8 BK319 hb GW319 HB_; have NB312_319 := bm_ BK312 hg; have NB319_312 := bn_ BK312 hg; have NB313_319 := bm_ BK313 hg; have NB319_313 := bn_ BK313 hg; replace BK312 := bb_ BK312 hb; replace BK313 := bb_ BK313 hb; replace HB := HB_; clear hb hg; have hnb9 := NB319_312.out; have hnc9 := NB312_319.out; have hnb10 := NB319_313.out; have hnc10 := NB313_319.out; obtain ⟨hcz11_0, hcz11_1, hcz11_2, hcz11_3, hfz11_0, hfz11_1, hfz11_2, hfz11_3⟩ := ch4_ BK319; obtain ⟨hcz12_0, hcz12_1, hcz12_2, hcz12_3, hfz12_0, hfz12_1, hfz12_2, hfz12_3⟩ := ch4_ BK313))
 refine bodyPost_ret (results_cell_row rfl _ _ gb313 46 #[.int .i64 t314, .int .i64 t315, .int .i64 t316, .int .i64 t317] (0, 0) _ rfl (bp_ BK313).out Try.underlying46 rfl (by kernel_rfl)) rfl ?_
 exact ⟨es_, (bw_ HB).out⟩
end Go.Proofs.Ytgoeelhiffbjlaa.QB
