import Derived.Test.YteniblbnmcfmjaaQMx6
import Derived.Test.YteniblbnmcfmjaaQMx14
namespace Go.Proofs.Yteniblbnmcfmjaa.QM
open Go.RowKit Go.Proofs.YteniblbnmcfmjaaW.PrintWords Go.Proofs.YteniblbnmcfmjaaW.PrintLast Go.Proofs.YteniblbnmcfmjaaW.PrintMore
attribute [local go_sem] isSome_setCell max2_int min2_int max_two min_two max_three min_three max_four min_four
set_option linter.unusedVariables false
set_option linter.unusedSimpArgs false

/-! ### impl_reduced: function 40 -/
mutual
def impl_reduced.j0 : Nat → Int → Bool → Int → Int → Int → Int → Option (Int × Int × Int × Int × Bool)
 | 0, _, _, _, _, _, _ => none
 | k + 1, x4, x37, x189000, x189001, x189002, x189003 => if x37 = true then (impl_reduced.j1 k (wrap64 (-x4)) x189000 x189001 x189002 x189003) else (impl_reduced.j1 k x4 x189000 x189001 x189002 x189003)
def impl_reduced.j1 : Nat → Int → Int → Int → Int → Int → Option (Int × Int × Int × Int × Bool)
 | 0, _, _, _, _, _ => none
 | k + 1, x4, x189000, x189001, x189002, x189003 => impl_reduced.l0 k x4 0 x189000 x189001 x189002 x189003
def impl_reduced.l0 : Nat → Int → Int → Int → Int → Int → Int → Option (Int × Int × Int × Int × Bool)
 | 0, _, _, _, _, _, _ => none
 | k + 1, x4, x40, x189000, x189001, x189002, x189003 => if x40 < 2 then (impl_reduced.l1 k x4 x40 x40 0 x189000 x189001 x189002 x189003) else ((impl_IsMatrix.f k x189000 x189001 x189002 x189003).bind fun t193 => (some (x189000, x189001, x189002, x189003, t193)))
def impl_reduced.l1 : Nat → Int → Int → Int → Int → Int → Int → Int → Int → Option (Int × Int × Int × Int × Bool)
 | 0, _, _, _, _, _, _, _, _ => none
 | k + 1, x4, x5, x40, x43, x189000, x189001, x189002, x189003 => if x43 < 2 then (if x5 = 0 then (if x43 = 0 then (if x4 = 0 then (none) else (impl_reduced.l1 k x4 x5 x40 (wrap64 (x43 + 1)) (wrap64 (Int.tdiv x189000 x4)) x189001 x189002 x189003)) else (if x43 = 1 then (if x4 = 0 then (none) else (impl_reduced.l1 k x4 x5 x40 (wrap64 (x43 + 1)) x189000 (wrap64 (Int.tdiv x189001 x4)) x189002 x189003)) else (none))) else (if x5 = 1 then (if x43 = 0 then (if x4 = 0 then (none) else (impl_reduced.l1 k x4 x5 x40 (wrap64 (x43 + 1)) x189000 x189001 (wrap64 (Int.tdiv x189002 x4)) x189003)) else (if x43 = 1 then (if x4 = 0 then (none) else (impl_reduced.l1 k x4 x5 x40 (wrap64 (x43 + 1)) x189000 x189001 x189002 (wrap64 (Int.tdiv x189003 x4)))) else (none))) else (none))) else (impl_reduced.l0 k x4 (wrap64 (x40 + 1)) x189000 x189001 x189002 x189003)
end
def impl_reduced.f (k : Nat) (a0_0 a0_1 a0_2 a0_3 : Int) : Option (Int × Int × Int × Int × Bool) := (impl_gcd.f k a0_0 a0_1).bind fun t190 => ((impl_gcd.f k a0_2 a0_3).bind fun t191 => ((impl_gcd.f k t190 t191).bind fun t192 => (if a0_0 < 0 then (impl_reduced.j0 k t192 true a0_0 a0_1 a0_2 a0_3) else (if a0_0 = 0 then (impl_reduced.j0 k t192 (decide (a0_1 < 0)) a0_0 a0_1 a0_2 a0_3) else (impl_reduced.j0 k t192 false a0_0 a0_1 a0_2 a0_3)))))
def impl_reduced.T1 : Bool × List (List Nat × List Nat) := (true, [([], []), ([0], [0]), ([1], [1]), ([], []), ([3], [3]), ([4], [4]), ([2, 5], [2, 5]), ([], []), ([7], [7]), ([8], [8]), ([], []), ([10], [10]), ([11], [11]), ([9, 12, 6], [9, 12]), ([6, 13, 13], [6, 13]), ([14, 14, 0, 1, 2, 3, 4, 5, 6, 7, 8, 9, 10, 11, 12, 13, 14], [14])])
def impl_reduced.B1 : List Nat := [0, 1, 3, 0, 8, 24, 63, 0, 128, 384, 0, 1024, 3072, 8191, 16383, 32767]
theorem impl_reduced.tab1 : rtab .any (opsOf Try.f40 1) = impl_reduced.T1 := by kernel_rfl
theorem impl_reduced.bits1 : waitsOk impl_reduced.T1.2 impl_reduced.B1 = true := by kernel_rfl
def impl_reduced.T10 : Bool × List (List Nat × List Nat) := (true, [([], []), ([], []), ([0], [0]), ([2, 1], [1, 2]), ([3], [3]), ([], []), ([4, 5], [4, 5]), ([0], [0]), ([7, 1, 0, 1, 2, 3, 4, 5, 6], [1, 7]), ([8, 6, 0, 1, 2, 3, 4, 5, 6], [6, 8])])
def impl_reduced.B10 : List Nat := [0, 0, 1, 7, 15, 0, 63, 1, 255, 511]
theorem impl_reduced.tab10 : rtab .any (opsOf Try.f40 10) = impl_reduced.T10 := by kernel_rfl
theorem impl_reduced.bits10 : waitsOk impl_reduced.T10.2 impl_reduced.B10 = true := by kernel_rfl
set_option maxHeartbeats 8000000 in
set_option maxRecDepth 100000 in
theorem impl_reduced.calls (k : Nat) (a0_0 a0_1 a0_2 a0_3 r1 r2 r3 r4 : Int) (r5 : Bool) (w : World) (h : impl_reduced.f k a0_0 a0_1 a0_2 a0_3 = some (r1, r2, r3, r4, r5)) :
  Calls Try.prog 40 #[.agg #[.int .i64 a0_0, .int .i64 a0_1, .int .i64 a0_2, .int .i64 a0_3]] w fun e w' => e = .returned (.tuple #[.agg #[.int .i64 r1, .int .i64 r2, .int .i64 r3, .int .i64 r4], .bool r5]) ∧ Below w.heap.size w w' := by
 have hu26 := Try.underlying26
 have hu24 := Try.underlying24
 have HB := Aside0.mk (Below.refl w.heap.size w)
 unfold impl_reduced.f at h
 have H := h
 clear h
 replace H := oc_ H
 obtain ⟨t190, A2, H⟩ := H
 replace H := oc_ H
 obtain ⟨t191, A3, H⟩ := H
 replace H := oc_ H
 obtain ⟨t192, A4, H⟩ := H
 have HC5 := Aside0.mk H
 clear H
 go_enter Try.func40, Try.ntmps40
 try go_wp2_with (first | ((refine gd_ 1 ?_); refine by_ 1 #[.int .i64 a0_0, .int .i64 a0_1, .int .i64 a0_2, .int .i64 a0_3] 26 HB ?_; intro gb188 hg w6 BK188 hb GW188 HB_; replace HB := HB_; clear hb hg) | ((refine gd_ 2 ?_); refine by_ 2 #[.int .i64 0, .int .i64 0, .int .i64 0, .int .i64 0] 26 HB ?_; intro gb189 hg w7 BK189 hb GW189 HB_; have NB188_189 := bm_ BK188 hg; have NB189_188 := bn_ BK188 hg; replace BK188 := bb_ BK188 hb; replace HB := HB_; clear hb hg))
 replace BK188 := bd_ BK188
 replace BK189 := bd_ BK189
 replace HB := be_ HB
 refine start_ (n := 16) (S := fun w' => w'.cell? ⟨gb188, 0, none⟩ = some (.int .i64 a0_0) ∧ w'.cell? ⟨gb188, 1, none⟩ = some (.int .i64 a0_1) ∧ w'.cell? ⟨gb188, 2, none⟩ = some (.int .i64 a0_2) ∧ w'.cell? ⟨gb188, 3, none⟩ = some (.int .i64 a0_3)) (ds := []) (bv_ 16 0) (by kernel_rfl) rfl rfl ⟨cz_ BK188 0, cz_ BK188 1, cz_ BK188 2, cz_ BK188 3⟩ (fun hHeld => ?_); refine with_tabW impl_reduced.tab1 impl_reduced.bits1 (fun HT_ HW_ => ?_)
 generalize w7.drew = w8 at BK188 BK189 HB hHeld ⊢
 refine px_ HT_ 0 7 1 ?_
 refine px_ HT_ 1 8 3 ?_
 refine px_ HT_ 3 10 11 ?_
 refine px_ HT_ 4 11 27 ?_
 refine px_ HT_ 7 14 155 ?_
 refine px_ HT_ 8 15 411 ?_
 refine px_ HT_ 10 17 1435 ?_
 refine px_ HT_ 11 18 3483 ?_
 refine ta_ HT_ HW_ 2 (some 9) (bv_ 16 3487) hHeld ?_ (hy := by rintro w' ⟨s0, s1, s2, s3⟩; go_simp; with_reducible rfl)
 refine ta_ HT_ HW_ 5 (some 12) (bv_ 16 3519) hHeld ?_ (hy := by rintro w' ⟨s0, s1, s2, s3⟩; go_simp; with_reducible rfl)
 refine ta_ HT_ HW_ 9 (some 16) (bv_ 16 4031) hHeld ?_ (hy := by rintro w' ⟨s0, s1, s2, s3⟩; go_simp; with_reducible rfl)
 refine ta_ HT_ HW_ 12 (some 19) (bv_ 16 8127) hHeld ?_ (hy := by rintro w' ⟨s0, s1, s2, s3⟩; go_simp; with_reducible rfl)
 refine on_ HT_ 6 (some 13) (bv_ 16 8191) (fun K hK => ?_)
 refine gs_ Try.func42 #[.int .i64 a0_0, .int .i64 a0_1] ?_
 with_reducible refine (impl_gcd.calls k a0_0 a0_1 t190 _ A2.out).mono ?_
 rintro e w9 ⟨rfl, hb⟩
 refine ⟨_, rfl, ?_⟩
 replace BK188 := bb_ BK188 hb
 replace BK189 := bb_ BK189 hb
 replace HB := bt_ HB hb
 try clear hb
 refine hK.out _ _ ⟨cz_ BK188 0, cz_ BK188 1, cz_ BK188 2, cz_ BK188 3⟩ (fun hHeld => ?_)
 clear hK K
 refine nm_ (some 13) ?_
 refine on_ HT_ 13 (some 20) (bv_ 16 16383) (fun K hK => ?_)
 refine gs_ Try.func42 #[.int .i64 a0_2, .int .i64 a0_3] ?_
 with_reducible refine (impl_gcd.calls k a0_2 a0_3 t191 _ A3.out).mono ?_
 rintro e w10 ⟨rfl, hb⟩
 refine ⟨_, rfl, ?_⟩
 replace BK188 := bb_ BK188 hb
 replace BK189 := bb_ BK189 hb
 replace HB := bt_ HB hb
 try clear hb
 refine hK.out _ _ ⟨cz_ BK188 0, cz_ BK188 1, cz_ BK188 2, cz_ BK188 3⟩ (fun hHeld => ?_)
 clear hK K
 refine nm_ (some 20) ?_
 refine on_ HT_ 14 (some 21) (bv_ 16 32767) (fun K hK => ?_)
 refine gs_ Try.func42 #[.int .i64 t190, .int .i64 t191] ?_
 with_reducible refine (impl_gcd.calls k t190 t191 t192 _ A4.out).mono ?_
 rintro e w11 ⟨rfl, hb⟩
 refine ⟨_, rfl, ?_⟩
 replace BK188 := bb_ BK188 hb
 replace BK189 := bb_ BK189 hb
 replace HB := bt_ HB hb
 try clear hb
 refine hK.out _ _ ⟨cz_ BK188 0, cz_ BK188 1, cz_ BK188 2, cz_ BK188 3⟩ (fun hHeld => ?_)
 clear hK K
 refine nm_ (some 21) ?_
 refine px_ HT_ 15 4 65535 ?_
 refine done_ (done_of HT_.out (by kernel_rfl)) ?_
 go_upto_region 2 with (fail)
 go_cut [37] (fun v37 wc => ∃ (kq : Nat) (x37_4 : Bool), v37 = .bool x37_4 ∧ Aside0 (impl_reduced.j0 kq t192 x37_4 a0_0 a0_1 a0_2 a0_3 = some (r1, r2, r3, r4, r5)) ∧ Aside0 (kq ≤ k) ∧ Aside0 (wc.heap[gb188]? = some (.cells #[.int .i64 a0_0, .int .i64 a0_1, .int .i64 a0_2, .int .i64 a0_3] 26 (0, 0))) ∧ Aside0 (wc.heap[gb189]? = some (.cells #[.int .i64 0, .int .i64 0, .int .i64 0, .int .i64 0] 26 (0, 0))) ∧ Aside0 (Below w.heap.size w wc))
 case first =>
  have H := HC5.out
  clear HC5
  replace H := il_ H
  rcases H with ⟨c12b0, H⟩ | ⟨c12b0, H⟩
  ·(first | rw [c12b0] | (simp only [i64_w, i32_w]; rw [c12b0]) | skip)
   have H' := Aside0.mk H
   clear H
   have hnb13 := NB188_189.out
   have hnc13 := NB189_188.out
   obtain ⟨hcz14_0, hcz14_1, hcz14_2, hcz14_3, hfz14_0, hfz14_1, hfz14_2, hfz14_3⟩ := ch4_ BK188
   go_wp2
   go_meet
   case rel => exact ⟨_, (true), en_, H', ⟨by first | omega | exact Nat.le_refl _⟩, bl_ BK188, bl_ BK189, bw_ HB⟩
  (first | rw [c12b0] | (simp only [i64_w, i32_w]; rw [c12b0]) | skip)
  replace H := ie_ H
  rcases H with ⟨c15b0, c15b1, H⟩ | ⟨c15, c15b0, c15b1, H⟩
  ·have H' := Aside0.mk H
   clear H
   have hnb16 := NB188_189.out
   have hnc16 := NB189_188.out
   obtain ⟨hcz17_0, hcz17_1, hcz17_2, hcz17_3, hfz17_0, hfz17_1, hfz17_2, hfz17_3⟩ := ch4_ BK188
   go_wp2
   go_meet
   case rel => exact ⟨_, (decide (a0_1 < 0)), en_, H', ⟨by first | omega | exact Nat.le_refl _⟩, bl_ BK188, bl_ BK189, bw_ HB⟩
  have H' := Aside0.mk H
  clear H
  have hnb18 := NB188_189.out
  have hnc18 := NB189_188.out
  obtain ⟨hcz19_0, hcz19_1, hcz19_2, hcz19_3, hfz19_0, hfz19_1, hfz19_2, hfz19_3⟩ := ch4_ BK188
  go_wp2
  go_meet
  case rel => exact ⟨_, (false), en_, H', ⟨by first | omega | exact Nat.le_refl _⟩, bl_ BK188, bl_ BK189, bw_ HB⟩
 clear HC5
 try clear c12b0
 try clear c15
 try clear c15b0
 try clear c15b1
 try clear hcz14_0 hcz14_1 hcz14_2 hcz14_3
 try clear hcz17_0 hcz17_1 hcz17_2 hcz17_3
 try clear hcz19_0 hcz19_1 hcz19_2 hcz19_3
 try clear hfz14_0 hfz14_1 hfz14_2 hfz14_3
 try clear hfz17_0 hfz17_1 hfz17_2 hfz17_3
 try clear hfz19_0 hfz19_1 hfz19_2 hfz19_3
 obtain ⟨kq, x37_4, rfl, HA, HJ4, BK188, BK189, HB⟩ := hcut
 cases kq with
 | zero => exact absurd HA.out (by simp [impl_reduced.j0])
 | succ kj4 =>
  have H := HA.out
  clear HA
  simp only [impl_reduced.j0] at H
  have HC20 := Aside0.mk H
  clear H
  go_upto_if 37 with (fail)
  go_cut [4] (fun v4 wc => ∃ (kq : Nat) (x4_19 : Int), v4 = .int .i64 x4_19 ∧ Aside0 (impl_reduced.j1 kq x4_19 a0_0 a0_1 a0_2 a0_3 = some (r1, r2, r3, r4, r5)) ∧ Aside0 (kq ≤ kj4) ∧ Aside0 (wc.heap[gb188]? = some (.cells #[.int .i64 a0_0, .int .i64 a0_1, .int .i64 a0_2, .int .i64 a0_3] 26 (0, 0))) ∧ Aside0 (wc.heap[gb189]? = some (.cells #[.int .i64 0, .int .i64 0, .int .i64 0, .int .i64 0] 26 (0, 0))) ∧ Aside0 (Below w.heap.size w wc))
  case first =>
   have H := HC20.out
   clear HC20
   replace H := ib_ H
   rcases H with ⟨rfl, H⟩ | ⟨rfl, H⟩
   ·have H' := Aside0.mk H
    clear H
    go_wp2
    go_meet
    case rel => exact ⟨_, (wrap64 (-t192)), en_, H', ⟨by have := HJ4.out; first | omega | exact Nat.le_refl _⟩, bl_ BK188, bl_ BK189, bw_ HB⟩
   have H' := Aside0.mk H
   clear H
   go_wp2
   go_meet
   case rel => exact ⟨_, (t192), en_, H', ⟨by have := HJ4.out; first | omega | exact Nat.le_refl _⟩, bl_ BK188, bl_ BK189, bw_ HB⟩
  clear HC20
  try clear c12b0
  try clear c15
  try clear c15b0
  try clear c15b1
  try clear hcz14_0 hcz14_1 hcz14_2 hcz14_3
  try clear hcz17_0 hcz17_1 hcz17_2 hcz17_3
  try clear hcz19_0 hcz19_1 hcz19_2 hcz19_3
  try clear hfz14_0 hfz14_1 hfz14_2 hfz14_3
  try clear hfz17_0 hfz17_1 hfz17_2 hfz17_3
  try clear hfz19_0 hfz19_1 hfz19_2 hfz19_3
  obtain ⟨kq, x4_19, rfl, HA, HJ19, BK188, BK189, HB⟩ := hcut
  cases kq with
  | zero => exact absurd HA.out (by simp [impl_reduced.j1])
  | succ kj19 =>
   have H := HA.out
   clear HA
   simp only [impl_reduced.j1] at H
   have H' := Aside0.mk H
   clear H
   go_wp2
   go_loopg [40] kj19 (fun kq v40 w' => ∃ (x40_3 : Int) (x189000_3 : Int) (x189001_3 : Int) (x189002_3 : Int) (x189003_3 : Int), v40 = .int .i64 x40_3 ∧ Aside0 (impl_reduced.l0 kq x4_19 x40_3 x189000_3 x189001_3 x189002_3 x189003_3 = some (r1, r2, r3, r4, r5)) ∧ Aside0 (kq ≤ kj19) ∧ Aside0 (w'.heap[gb188]? = some (.cells #[.int .i64 x189000_3, .int .i64 x189001_3, .int .i64 x189002_3, .int .i64 x189003_3] 26 (0, 0))) ∧ Aside0 (w'.heap[gb189]? = some (.cells #[.int .i64 0, .int .i64 0, .int .i64 0, .int .i64 0] 26 (0, 0))) ∧ Aside0 (Below w.heap.size w w'))
   case atStart => exact ⟨(0), (a0_0), (a0_1), (a0_2), (a0_3), en_, H', ⟨Nat.le_refl _⟩, bl_ BK188, bl_ BK189, bw_ HB⟩
   clear H'
   try clear c12b0
   try clear c15
   try clear c15b0
   try clear c15b1
   try clear hcz14_0 hcz14_1 hcz14_2 hcz14_3
   try clear hcz17_0 hcz17_1 hcz17_2 hcz17_3
   try clear hcz19_0 hcz19_1 hcz19_2 hcz19_3
   try clear hfz14_0 hfz14_1 hfz14_2 hfz14_3
   try clear hfz17_0 hfz17_1 hfz17_2 hfz17_3
   try clear hfz19_0 hfz19_1 hfz19_2 hfz19_3
   obtain ⟨x40_3, x189000_3, x189001_3, x189002_3, x189003_3, rfl, HA, HK3, BK188, BK189, HB⟩ := hrel
   cases gk with
   | zero => exact absurd HA.out (by simp [impl_reduced.l0])
   | succ k3 =>
    have H := HA.out
    clear HA
    simp only [impl_reduced.l0] at H
    replace H := il_ H
    rcases H with ⟨c22b0, H⟩ | ⟨c22b0, H⟩
    ·have H' := Aside0.mk H
     clear H
     go_wp2
     go_loopg [43] k3 (fun kq v43 w' => ∃ (x43_4 : Int) (x189000_4 : Int) (x189001_4 : Int) (x189002_4 : Int) (x189003_4 : Int), v43 = .int .i64 x43_4 ∧ Aside0 (impl_reduced.l1 kq x4_19 x40_3 x40_3 x43_4 x189000_4 x189001_4 x189002_4 x189003_4 = some (r1, r2, r3, r4, r5)) ∧ Aside0 (kq ≤ k3) ∧ Aside0 (w'.heap[gb188]? = some (.cells #[.int .i64 x189000_4, .int .i64 x189001_4, .int .i64 x189002_4, .int .i64 x189003_4] 26 (0, 0))) ∧ Aside0 (w'.heap[gb189]? = some (.cells #[.int .i64 0, .int .i64 0, .int .i64 0, .int .i64 0] 26 (0, 0))) ∧ Aside0 (Below w.heap.size w w'))
     case atStart => exact ⟨(0), (x189000_3), (x189001_3), (x189002_3), (x189003_3), en_, H', ⟨Nat.le_refl _⟩, bl_ BK188, bl_ BK189, bw_ HB⟩
     clear H'
     try clear c12b0
     try clear c15
     try clear c15b0
     try clear c15b1
     try clear c22b0
     try clear hcz14_0 hcz14_1 hcz14_2 hcz14_3
     try clear hcz17_0 hcz17_1 hcz17_2 hcz17_3
     try clear hcz19_0 hcz19_1 hcz19_2 hcz19_3
     try clear hfz14_0 hfz14_1 hfz14_2 hfz14_3
     try clear hfz17_0 hfz17_1 hfz17_2 hfz17_3
     try clear hfz19_0 hfz19_1 hfz19_2 hfz19_3
     obtain ⟨x43_4, x189000_4, x189001_4, x189002_4, x189003_4, rfl, HA, HK4, BK188, BK189, HB⟩ := hrel
     cases gk with
     | zero => exact absurd HA.out (by simp [impl_reduced.l1])
     | succ k4 =>
      have H := HA.out
      clear HA
      simp only [impl_reduced.l1] at H
      replace H := il_ H
      rcases H with ⟨c23b0, H⟩ | ⟨c23b0, H⟩
      ·by_cases c24 : x40_3 = 0
       ·subst c24
        replace H := i1_ H
        by_cases c25 : x43_4 = 0
        ·subst c25
         replace H := i1_ H
         replace H := ief_ H
         obtain ⟨c26, c26b0, c26b1, H⟩ := H
         have H' := Aside0.mk H
         clear H
         try go_wp2
         replace BK188 := bd_ BK188
         replace BK189 := bd_ BK189
         replace HB := be_ HB
         refine start_ (n := 10) (S := fun w' => w'.cell? ⟨gb188, 0, none⟩ = some (.int .i64 x189000_4) ∧ w'.cell? ⟨gb188, 1, none⟩ = some (.int .i64 x189001_4) ∧ w'.cell? ⟨gb188, 2, none⟩ = some (.int .i64 x189002_4) ∧ w'.cell? ⟨gb188, 3, none⟩ = some (.int .i64 x189003_4)) (ds := [9]) (bv_ 10 0) (by kernel_rfl) rfl rfl ⟨cz_ BK188 0, cz_ BK188 1, cz_ BK188 2, cz_ BK188 3⟩ (fun hHeld => ?_); refine with_tabW impl_reduced.tab10 impl_reduced.bits10 (fun HT_ HW_ => ?_)
         generalize wr.drew = w27 at BK188 BK189 HB hHeld ⊢
         refine px_ HT_ 0 46 1 ?_
         refine px_ HT_ 1 47 3 ?_
         refine px_ HT_ 2 48 7 ?_
         refine px_ HT_ 3 49 15 ?_
         refine px_ HT_ 5 51 47 ?_
         refine px_ HT_ 7 53 175 ?_
         refine ta_ HT_ HW_ 4 (some 50) (bv_ 10 191) hHeld ?_ (hy := by rintro w' ⟨s0, s1, s2, s3⟩; go_simp; with_reducible rfl)
         refine px_ HT_ 6 52 255 ?_
         refine px_ HT_ 8 54 511 ?_
         refine last_ (i := 9) (N := none) (bv_ 10 1023) rfl rfl (one_of HT_.out (by kernel_rfl)) (by decide) (fun K hK => ?_)
         have hs28 : w27.cell? ⟨gb188, 0, none⟩ = some (.int .i64 x189000_4) := (blk_cell BK188.out 0).trans rfl
         have hfs28 := blk_frozen BK188.out 0
         have hns28_1 := NB189_188.out
         have hms28_1 := NB188_189.out
         refine skip_ (w1 := ?_) (by rfl) rfl ?_ ?_
         rotate_left
         ·go_simp
          rfl
         refine hK.out _ _ ?_
         clear hK K
         refine done_ (done_of HT_.out (by kernel_rfl)) ?_
         try go_wp2
         go_roundg k4
         case measure => have := HJ4.out; have := HJ19.out; have := HK3.out; have := HK4.out; omega
         case rel => exact ⟨(wrap64 (0 + 1)), (wrap64 (Int.tdiv x189000_4 x4_19)), (x189001_4), (x189002_4), (x189003_4), en_, H', ⟨by have := HJ4.out; have := HJ19.out; have := HK3.out; have := HK4.out; omega⟩, bp_ BK188, fl_ BK189 NB189_188, bw_ HB⟩
        rw [if_neg c25] at H
        have c25b0 : (x43_4 == 0) = false := beq_eq_false_iff_ne.mpr c25
        have c25b1 : (x43_4 != 0) = true := bne_iff_ne.mpr c25
        by_cases c29 : x43_4 = 1
        ·subst c29
         replace H := i1_ H
         replace H := ief_ H
         obtain ⟨c30, c30b0, c30b1, H⟩ := H
         have H' := Aside0.mk H
         clear H
         try go_wp2
         replace BK188 := bd_ BK188
         replace BK189 := bd_ BK189
         replace HB := be_ HB
         refine start_ (n := 10) (S := fun w' => w'.cell? ⟨gb188, 0, none⟩ = some (.int .i64 x189000_4) ∧ w'.cell? ⟨gb188, 1, none⟩ = some (.int .i64 x189001_4) ∧ w'.cell? ⟨gb188, 2, none⟩ = some (.int .i64 x189002_4) ∧ w'.cell? ⟨gb188, 3, none⟩ = some (.int .i64 x189003_4)) (ds := [9]) (bv_ 10 0) (by kernel_rfl) rfl rfl ⟨cz_ BK188 0, cz_ BK188 1, cz_ BK188 2, cz_ BK188 3⟩ (fun hHeld => ?_); refine with_tabW impl_reduced.tab10 impl_reduced.bits10 (fun HT_ HW_ => ?_)
         generalize wr.drew = w31 at BK188 BK189 HB hHeld ⊢
         refine px_ HT_ 0 46 1 ?_
         refine px_ HT_ 1 47 3 ?_
         refine px_ HT_ 2 48 7 ?_
         refine px_ HT_ 3 49 15 ?_
         refine px_ HT_ 5 51 47 ?_
         refine px_ HT_ 7 53 175 ?_
         refine ta_ HT_ HW_ 4 (some 50) (bv_ 10 191) hHeld ?_ (hy := by rintro w' ⟨s0, s1, s2, s3⟩; go_simp; with_reducible rfl)
         refine px_ HT_ 6 52 255 ?_
         refine px_ HT_ 8 54 511 ?_
         refine last_ (i := 9) (N := none) (bv_ 10 1023) rfl rfl (one_of HT_.out (by kernel_rfl)) (by decide) (fun K hK => ?_)
         have hs32 : w31.cell? ⟨gb188, 1, none⟩ = some (.int .i64 x189001_4) := (blk_cell BK188.out 1).trans rfl
         have hfs32 := blk_frozen BK188.out 1
         have hns32_1 := NB189_188.out
         have hms32_1 := NB188_189.out
         refine skip_ (w1 := ?_) (by rfl) rfl ?_ ?_
         rotate_left
         ·go_simp
          rfl
         refine hK.out _ _ ?_
         clear hK K
         refine done_ (done_of HT_.out (by kernel_rfl)) ?_
         try go_wp2
         go_roundg k4
         case measure => have := HJ4.out; have := HJ19.out; have := HK3.out; have := HK4.out; omega
         case rel => exact ⟨(wrap64 (1 + 1)), (x189000_4), (wrap64 (Int.tdiv x189001_4 x4_19)), (x189002_4), (x189003_4), en_, H', ⟨by have := HJ4.out; have := HJ19.out; have := HK3.out; have := HK4.out; omega⟩, bp_ BK188, fl_ BK189 NB189_188, bw_ HB⟩
        rw [if_neg c29] at H
        exact absurd H (by simp)
       rw [if_neg c24] at H
       have c24b0 : (x40_3 == 0) = false := beq_eq_false_iff_ne.mpr c24
       have c24b1 : (x40_3 != 0) = true := bne_iff_ne.mpr c24
       by_cases c33 : x40_3 = 1
       ·subst c33
        replace H := i1_ H
        by_cases c34 : x43_4 = 0
        ·subst c34
         replace H := i1_ H
         replace H := ief_ H
         obtain ⟨c35, c35b0, c35b1, H⟩ := H
         have H' := Aside0.mk H
         clear H
         try go_wp2
         replace BK188 := bd_ BK188
         replace BK189 := bd_ BK189
         replace HB := be_ HB
         refine start_ (n := 10) (S := fun w' => w'.cell? ⟨gb188, 0, none⟩ = some (.int .i64 x189000_4) ∧ w'.cell? ⟨gb188, 1, none⟩ = some (.int .i64 x189001_4) ∧ w'.cell? ⟨gb188, 2, none⟩ = some (.int .i64 x189002_4) ∧ w'.cell? ⟨gb188, 3, none⟩ = some (.int .i64 x189003_4)) (ds := [9]) (bv_ 10 0) (by kernel_rfl) rfl rfl ⟨cz_ BK188 0, cz_ BK188 1, cz_ BK188 2, cz_ BK188 3⟩ (fun hHeld => ?_); refine with_tabW impl_reduced.tab10 impl_reduced.bits10 (fun HT_ HW_ => ?_)
         generalize wr.drew = w36 at BK188 BK189 HB hHeld ⊢
         refine px_ HT_ 0 46 1 ?_
         refine px_ HT_ 1 47 3 ?_
         refine px_ HT_ 2 48 7 ?_
         refine px_ HT_ 3 49 15 ?_
         refine px_ HT_ 5 51 47 ?_
         refine px_ HT_ 7 53 175 ?_
         refine ta_ HT_ HW_ 4 (some 50) (bv_ 10 191) hHeld ?_ (hy := by rintro w' ⟨s0, s1, s2, s3⟩; go_simp; with_reducible rfl)
         refine px_ HT_ 6 52 255 ?_
         refine px_ HT_ 8 54 511 ?_
         refine last_ (i := 9) (N := none) (bv_ 10 1023) rfl rfl (one_of HT_.out (by kernel_rfl)) (by decide) (fun K hK => ?_)
         have hs37 : w36.cell? ⟨gb188, 2, none⟩ = some (.int .i64 x189002_4) := (blk_cell BK188.out 2).trans rfl
         have hfs37 := blk_frozen BK188.out 2
         have hns37_1 := NB189_188.out
         have hms37_1 := NB188_189.out
         refine skip_ (w1 := ?_) (by rfl) rfl ?_ ?_
         rotate_left
         ·go_simp
          rfl
         refine hK.out _ _ ?_
         clear hK K
         refine done_ (done_of HT_.out (by kernel_rfl)) ?_
         try go_wp2
         go_roundg k4
         case measure => have := HJ4.out; have := HJ19.out; have := HK3.out; have := HK4.out; omega
         case rel => exact ⟨(wrap64 (0 + 1)), (x189000_4), (x189001_4), (wrap64 (Int.tdiv x189002_4 x4_19)), (x189003_4), en_, H', ⟨by have := HJ4.out; have := HJ19.out; have := HK3.out; have := HK4.out; omega⟩, bp_ BK188, fl_ BK189 NB189_188, bw_ HB⟩
        rw [if_neg c34] at H
        have c34b0 : (x43_4 == 0) = false := beq_eq_false_iff_ne.mpr c34
        have c34b1 : (x43_4 != 0) = true := bne_iff_ne.mpr c34
        by_cases c38 : x43_4 = 1
        ·subst c38
         replace H := i1_ H
         replace H := ief_ H
         obtain ⟨c39, c39b0, c39b1, H⟩ := H
         have H' := Aside0.mk H
         clear H
         try go_wp2
         replace BK188 := bd_ BK188
         replace BK189 := bd_ BK189
         replace HB := be_ HB
         refine start_ (n := 10) (S := fun w' => w'.cell? ⟨gb188, 0, none⟩ = some (.int .i64 x189000_4) ∧ w'.cell? ⟨gb188, 1, none⟩ = some (.int .i64 x189001_4) ∧ w'.cell? ⟨gb188, 2, none⟩ = some (.int .i64 x189002_4) ∧ w'.cell? ⟨gb188, 3, none⟩ = some (.int .i64 x189003_4)) (ds := [9]) (bv_ 10 0) (by kernel_rfl) rfl rfl ⟨cz_ BK188 0, cz_ BK188 1, cz_ BK188 2, cz_ BK188 3⟩ (fun hHeld => ?_); refine with_tabW impl_reduced.tab10 impl_reduced.bits10 (fun HT_ HW_ => ?_)
         generalize wr.drew = w40 at BK188 BK189 HB hHeld ⊢
         refine px_ HT_ 0 46 1 ?_
         refine px_ HT_ 1 47 3 ?_
         refine px_ HT_ 2 48 7 ?_
         refine px_ HT_ 3 49 15 ?_
         refine px_ HT_ 5 51 47 ?_
         refine px_ HT_ 7 53 175 ?_
         refine ta_ HT_ HW_ 4 (some 50) (bv_ 10 191) hHeld ?_ (hy := by rintro w' ⟨s0, s1, s2, s3⟩; go_simp; with_reducible rfl)
         refine px_ HT_ 6 52 255 ?_
         refine px_ HT_ 8 54 511 ?_
         refine last_ (i := 9) (N := none) (bv_ 10 1023) rfl rfl (one_of HT_.out (by kernel_rfl)) (by decide) (fun K hK => ?_)
         have hs41 : w40.cell? ⟨gb188, 3, none⟩ = some (.int .i64 x189003_4) := (blk_cell BK188.out 3).trans rfl
         have hfs41 := blk_frozen BK188.out 3
         have hns41_1 := NB189_188.out
         have hms41_1 := NB188_189.out
         refine skip_ (w1 := ?_) (by rfl) rfl ?_ ?_
         rotate_left
         ·go_simp
          rfl
         refine hK.out _ _ ?_
         clear hK K
         refine done_ (done_of HT_.out (by kernel_rfl)) ?_
         try go_wp2
         go_roundg k4
         case measure => have := HJ4.out; have := HJ19.out; have := HK3.out; have := HK4.out; omega
         case rel => exact ⟨(wrap64 (1 + 1)), (x189000_4), (x189001_4), (x189002_4), (wrap64 (Int.tdiv x189003_4 x4_19)), en_, H', ⟨by have := HJ4.out; have := HJ19.out; have := HK3.out; have := HK4.out; omega⟩, bp_ BK188, fl_ BK189 NB189_188, bw_ HB⟩
        rw [if_neg c38] at H
        exact absurd H (by simp)
       rw [if_neg c33] at H
       exact absurd H (by simp)
      have H' := Aside0.mk H
      clear H
      go_wp2
      go_roundg k4
      case measure => have := HJ4.out; have := HJ19.out; have := HK3.out; have := HK4.out; omega
      case rel => exact ⟨(wrap64 (x40_3 + 1)), (x189000_4), (x189001_4), (x189002_4), (x189003_4), en_, H', ⟨by have := HJ4.out; have := HJ19.out; have := HK3.out; have := HK4.out; omega⟩, bl_ BK188, bl_ BK189, bw_ HB⟩
    replace H := oc_ H
    obtain ⟨t193, A42, H⟩ := H
    simp only [Option.some.injEq, Prod.mk.injEq] at H
    obtain ⟨rfl, rfl, rfl, rfl, rfl⟩ := H
    try go_wp2
    replace BK188 := bd_ BK188
    replace BK189 := bd_ BK189
    replace HB := be_ HB
    refine start_ (n := 5) (S := fun w' => w'.cell? ⟨gb188, 0, none⟩ = some (.int .i64 x189000_3) ∧ w'.cell? ⟨gb188, 1, none⟩ = some (.int .i64 x189001_3) ∧ w'.cell? ⟨gb188, 2, none⟩ = some (.int .i64 x189002_3) ∧ w'.cell? ⟨gb188, 3, none⟩ = some (.int .i64 x189003_3)) (ds := []) (bv_ 5 0) (by kernel_rfl) rfl rfl ⟨cz_ BK188 0, cz_ BK188 1, cz_ BK188 2, cz_ BK188 3⟩ (fun hHeld => ?_)
    generalize wr.drew = w43 at BK188 BK189 HB hHeld ⊢
    refine take_ (i := 0) (N := some 57) (v := ?_) (a' := ?_) (bv_ 5 1) rfl rfl (by kernel_rfl) (fun _ _ _ h => h) (Or.inl ⟨by rfl, ?_⟩) hHeld ?_ ?_
    rotate_left
    ·rintro w' ⟨s0, s1, s2, s3⟩
     go_simp
     with_reducible rfl
    rotate_left
    ·simp only [Act.put, lstS, lstZ, lstC, i64_w, i32_w]
     rfl
    refine take_ (i := 1) (N := some 58) (v := ?_) (a' := ?_) (bv_ 5 3) rfl rfl (by kernel_rfl) (fun _ _ _ h => h) (Or.inl ⟨by rfl, ?_⟩) hHeld ?_ ?_
    rotate_left
    ·rintro w' ⟨s0, s1, s2, s3⟩
     go_simp
     with_reducible rfl
    rotate_left
    ·simp only [Act.put, lstS, lstZ, lstC, i64_w, i32_w]
     rfl
    refine one_ (i := 2) (N := some 59) (bv_ 5 7) rfl rfl (by kernel_rfl) (by decide) (fun K hK => ?_)
    refine gs_ Try.func8 #[.agg #[.int .i64 x189000_3, .int .i64 x189001_3, .int .i64 x189002_3, .int .i64 x189003_3]] ?_
    with_reducible refine (impl_IsMatrix.calls k3 x189000_3 x189001_3 x189002_3 x189003_3 t193 _ A42.out).mono ?_
    rintro e w44 ⟨rfl, hb⟩
    refine ⟨_, rfl, ?_⟩
    replace BK188 := bb_ BK188 hb
    replace BK189 := bb_ BK189 hb
    replace HB := bt_ HB hb
    try clear hb
    refine hK.out _ _ ⟨cz_ BK188 0, cz_ BK188 1, cz_ BK188 2, cz_ BK188 3⟩ (fun hHeld => ?_)
    clear hK K
    refine nm_ (some 59) ?_
    refine one_ (i := 3) (N := none) (bv_ 5 15) rfl rfl (by kernel_rfl) (by decide) (fun K hK => ?_)
    have hs45 : w44.cell? ⟨gb189, 0, none⟩ = some (.int .i64 0) := (blk_cell BK189.out 0).trans rfl
    have hfs45 := blk_frozen BK189.out 0
    have hns45_0 := NB188_189.out
    have hms45_0 := NB189_188.out
    have hs46 : w44.cell? ⟨gb189, 1, none⟩ = some (.int .i64 0) := (blk_cell BK189.out 1).trans rfl
    have hfs46 := blk_frozen BK189.out 1
    have hns46_0 := NB188_189.out
    have hms46_0 := NB189_188.out
    have hs47 : w44.cell? ⟨gb189, 2, none⟩ = some (.int .i64 0) := (blk_cell BK189.out 2).trans rfl
    have hfs47 := blk_frozen BK189.out 2
    have hns47_0 := NB188_189.out
    have hms47_0 := NB189_188.out
    have hs48 : w44.cell? ⟨gb189, 3, none⟩ = some (.int .i64 0) := (blk_cell BK189.out 3).trans rfl
    have hfs48 := blk_frozen BK189.out 3
    have hns48_0 := NB188_189.out
    have hms48_0 := NB189_188.out
    refine skip_ (w1 := ?_) (by rfl) rfl ?_ ?_
    rotate_left
    ·go_simp
     rfl
    refine hK.out _ _ ⟨(cg_ NB188_189 ((cg_ NB188_189 ((cg_ NB188_189 ((cg_ NB188_189 (hHeld.1)))))))), (cg_ NB188_189 ((cg_ NB188_189 ((cg_ NB188_189 ((cg_ NB188_189 (hHeld.2.1)))))))), (cg_ NB188_189 ((cg_ NB188_189 ((cg_ NB188_189 ((cg_ NB188_189 (hHeld.2.2.1)))))))), (cg_ NB188_189 ((cg_ NB188_189 ((cg_ NB188_189 ((cg_ NB188_189 (hHeld.2.2.2))))))))⟩ (fun hHeld => ?_)
    clear hK K
    refine pure_ (i := 4) (N := some 3) (v := ?_) (a' := ?_) (bv_ 5 31) rfl rfl (by kernel_rfl) (fun _ _ _ h => h) (Or.inl ⟨by rfl, ?_⟩) ?_ ?_
    rotate_left
    ·intro w'
     go_simp
     with_reducible rfl
    rotate_left
    ·simp only [Act.put, lstS, lstZ, lstC, i64_w, i32_w]
     rfl
    refine done_ (by kernel_rfl) ?_
    try go_wp2
    refine bodyPost_ret (results_ct rfl _ _ gb189 26 #[.int .i64 x189000_3, .int .i64 x189001_3, .int .i64 x189002_3, .int .i64 x189003_3] (0, 0) _ rfl (bp_ BK189).out Try.underlying26 rfl (by kernel_rfl)) rfl ?_
    exact ⟨es_, (bw_ HB).out⟩
end Go.Proofs.Yteniblbnmcfmjaa.QM
