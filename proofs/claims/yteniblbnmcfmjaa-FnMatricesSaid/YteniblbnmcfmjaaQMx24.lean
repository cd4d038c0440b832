import Derived.Test.YteniblbnmcfmjaaQMx6
import Derived.Test.YteniblbnmcfmjaaQMx20
import Derived.Test.YteniblbnmcfmjaaQMx22
namespace Go.Proofs.Yteniblbnmcfmjaa.QM
set_option maxHeartbeats 8000000
set_option maxRecDepth 100000
open Go.RowKit Go.Proofs.YteniblbnmcfmjaaW.PrintWords Go.Proofs.YteniblbnmcfmjaaW.PrintLast Go.Proofs.YteniblbnmcfmjaaW.PrintMore
attribute [local go_sem] isSome_setCell max2_int min2_int max_two min_two max_three min_three max_four min_four
set_option linter.unusedVariables false
set_option linter.unusedSimpArgs false

/-! ### spec_MultiplyMatrices: function 7 -/
def spec_MultiplyMatrices.j0 : Nat → Bool → Int → Int → Int → Int → Int → Int → Int → Int → Option (Int × Int × Int × Int × Int)
 | 0, _, _, _, _, _, _, _, _, _ => none
 | k + 1, x15, x257000, x257001, x257002, x257003, x258000, x258001, x258002, x258003 => if x15 = true then (some (0, 0, 0, 0, 1)) else ((spec_l04Times.f k x257000 x257001 x257002 x257003 x258000 x258001 x258002 x258003).bind fun bt261 => (if bt261.2.2.2.2 = true then (some (bt261.1, bt261.2.1, bt261.2.2.1, bt261.2.2.2.1, 0)) else (some (0, 0, 0, 0, 3))))
def spec_MultiplyMatrices.f (k : Nat) (a0_0 a0_1 a0_2 a0_3 a1_0 a1_1 a1_2 a1_3 : Int) : Option (Int × Int × Int × Int × Int) := (spec_l04Is.f k a0_0 a0_1 a0_2 a0_3).bind fun t259 => (if t259 = true then ((spec_l04Is.f k a1_0 a1_1 a1_2 a1_3).bind fun t260 => (spec_MultiplyMatrices.j0 k (!t260) a0_0 a0_1 a0_2 a0_3 a1_0 a1_1 a1_2 a1_3)) else (spec_MultiplyMatrices.j0 k true a0_0 a0_1 a0_2 a0_3 a1_0 a1_1 a1_2 a1_3))
theorem spec_MultiplyMatrices.calls (k : Nat) (a0_0 a0_1 a0_2 a0_3 a1_0 a1_1 a1_2 a1_3 r1 r2 r3 r4 r5 : Int) (w : World) (h : spec_MultiplyMatrices.f k a0_0 a0_1 a0_2 a0_3 a1_0 a1_1 a1_2 a1_3 = some (r1, r2, r3, r4, r5)) :
  Calls Try.prog 7 #[.agg #[.int .i64 a0_0, .int .i64 a0_1, .int .i64 a0_2, .int .i64 a0_3], .agg #[.int .i64 a1_0, .int .i64 a1_1, .int .i64 a1_2, .int .i64 a1_3]] w fun e w' => e = .returned (.tuple #[.agg #[.int .i64 r1, .int .i64 r2, .int .i64 r3, .int .i64 r4], .int .i64 r5]) ∧ Below w.heap.size w w' := by
 have hu26 := Try.underlying26
 have HB := Aside0.mk (Below.refl w.heap.size w)
 unfold spec_MultiplyMatrices.f at h
 have H := h
 clear h
 have HC3 := Aside0.mk H
 clear H
 go_enter Try.func7, Try.ntmps7
 go_upto_region 1 with (first | ((refine gd_ 2 ?_); refine by_ 2 #[.int .i64 a0_0, .int .i64 a0_1, .int .i64 a0_2, .int .i64 a0_3] 26 HB ?_; intro gb256 hg w4 BK256 hb GW256 HB_; replace HB := HB_; clear hb hg) | ((refine gd_ 3 ?_); refine by_ 3 #[.int .i64 a1_0, .int .i64 a1_1, .int .i64 a1_2, .int .i64 a1_3] 26 HB ?_; intro gb257 hg w5 BK257 hb GW257 HB_; have NB256_257 := bm_ BK256 hg; have NB257_256 := bn_ BK256 hg; replace BK256 := bb_ BK256 hb; replace HB := HB_; clear hb hg) | ((refine gd_ 4 ?_); refine by_ 4 #[.int .i64 0, .int .i64 0, .int .i64 0, .int .i64 0] 26 HB ?_; intro gb258 hg w6 BK258 hb GW258 HB_; have NB256_258 := bm_ BK256 hg; have NB258_256 := bn_ BK256 hg; have NB257_258 := bm_ BK257 hg; have NB258_257 := bn_ BK257 hg; replace BK256 := bb_ BK256 hb; replace BK257 := bb_ BK257 hb; replace HB := HB_; clear hb hg))
 (try simp only [Act.put, lstS, lstZ, lstC])
 go_cut [15] (fun v15 wc => ∃ (kq : Nat) (x15_2 : Bool), v15 = .bool x15_2 ∧ Aside0 (spec_MultiplyMatrices.j0 kq x15_2 a0_0 a0_1 a0_2 a0_3 a1_0 a1_1 a1_2 a1_3 = some (r1, r2, r3, r4, r5)) ∧ Aside0 (kq ≤ k) ∧ Aside0 (wc.heap[gb256]? = some (.cells #[.int .i64 a0_0, .int .i64 a0_1, .int .i64 a0_2, .int .i64 a0_3] 26 (0, 0))) ∧ Aside0 (wc.heap[gb257]? = some (.cells #[.int .i64 a1_0, .int .i64 a1_1, .int .i64 a1_2, .int .i64 a1_3] 26 (0, 0))) ∧ Aside0 (wc.heap[gb258]? = some (.cells #[.int .i64 0, .int .i64 0, .int .i64 0, .int .i64 0] 26 (0, 0))) ∧ Aside0 (Below w.heap.size w wc))
 case first =>
  have H := HC3.out
  clear HC3
  replace H := oc_ H
  obtain ⟨t259, A7, H⟩ := H
  replace H := ib_ H
  rcases H with ⟨rfl, H⟩ | ⟨rfl, H⟩
  ·replace H := oc_ H
   obtain ⟨t260, A9, H⟩ := H
   have H' := Aside0.mk H
   clear H
   have hnb10 := NB256_257.out
   have hnc10 := NB257_256.out
   have hnb11 := NB256_258.out
   have hnc11 := NB258_256.out
   obtain ⟨hcz12_0, hcz12_1, hcz12_2, hcz12_3, hfz12_0, hfz12_1, hfz12_2, hfz12_3⟩ := ch4_ BK256
   go_wp2_with (first | ((refine gc_ 27 ?_); refine ge_ 9 Try.func27 #[.agg #[.int .i64 a0_0, .int .i64 a0_1, .int .i64 a0_2, .int .i64 a0_3]] ?_; (with_reducible refine (spec_l04Is.calls k a0_0 a0_1 a0_2 a0_3 true _ A7.out).mono ?_); rintro e w13 ⟨rfl, hb⟩; refine ⟨_, rfl, ?_⟩; replace BK256 := bb_ BK256 hb; replace BK257 := bb_ BK257 hb; replace BK258 := bb_ BK258 hb; replace HB := bt_ HB hb; (try clear hb); have hnb14 := NB257_258.out; have hnc14 := NB258_257.out; obtain ⟨hcz15_0, hcz15_1, hcz15_2, hcz15_3, hfz15_0, hfz15_1, hfz15_2, hfz15_3⟩ := ch4_ BK257) | (go_at_call 27; (with_reducible refine (spec_l04Is.calls k a1_0 a1_1 a1_2 a1_3 t260 _ A9.out).mono ?_); rintro e w16 ⟨rfl, hb⟩; replace BK256 := bb_ BK256 hb; replace BK257 := bb_ BK257 hb; replace BK258 := bb_ BK258 hb; replace HB := bt_ HB hb; (try clear hb)))
   go_meet
   case rel => exact ⟨_, (!t260), en_, H', ⟨by first | omega | exact Nat.le_refl _⟩, bl_ BK256, bl_ BK257, bl_ BK258, bw_ HB⟩
  have H' := Aside0.mk H
  clear H
  have hnb17 := NB256_257.out
  have hnc17 := NB257_256.out
  have hnb18 := NB256_258.out
  have hnc18 := NB258_256.out
  obtain ⟨hcz19_0, hcz19_1, hcz19_2, hcz19_3, hfz19_0, hfz19_1, hfz19_2, hfz19_3⟩ := ch4_ BK256
  go_wp2_with (first | ((refine gc_ 27 ?_); refine ge_ 9 Try.func27 #[.agg #[.int .i64 a0_0, .int .i64 a0_1, .int .i64 a0_2, .int .i64 a0_3]] ?_; (with_reducible refine (spec_l04Is.calls k a0_0 a0_1 a0_2 a0_3 false _ A7.out).mono ?_); rintro e w20 ⟨rfl, hb⟩; refine ⟨_, rfl, ?_⟩; replace BK256 := bb_ BK256 hb; replace BK257 := bb_ BK257 hb; replace BK258 := bb_ BK258 hb; replace HB := bt_ HB hb; (try clear hb)))
  go_meet
  case rel => exact ⟨_, (true), en_, H', ⟨by first | omega | exact Nat.le_refl _⟩, bl_ BK256, bl_ BK257, bl_ BK258, bw_ HB⟩
 clear HC3
 try clear hcz12_0 hcz12_1 hcz12_2 hcz12_3
 try clear hcz15_0 hcz15_1 hcz15_2 hcz15_3
 try clear hcz19_0 hcz19_1 hcz19_2 hcz19_3
 try clear hfz12_0 hfz12_1 hfz12_2 hfz12_3
 try clear hfz15_0 hfz15_1 hfz15_2 hfz15_3
 try clear hfz19_0 hfz19_1 hfz19_2 hfz19_3
 obtain ⟨kq, x15_2, rfl, HA, HJ2, BK256, BK257, BK258, HB⟩ := hcut
 cases kq with
 | zero => exact absurd HA.out (by simp [spec_MultiplyMatrices.j0])
 | succ kj2 =>
  have H := HA.out
  clear HA
  simp only [spec_MultiplyMatrices.j0] at H
  replace H := ib_ H
  rcases H with ⟨rfl, H⟩ | ⟨rfl, H⟩
  ·simp only [Option.some.injEq, Prod.mk.injEq] at H
   obtain ⟨rfl, rfl, rfl, rfl, rfl⟩ := H
   have hnb22 := NB258_256.out
   have hnc22 := NB256_258.out
   have hnb23 := NB258_257.out
   have hnc23 := NB257_258.out
   obtain ⟨hcz24_0, hcz24_1, hcz24_2, hcz24_3, hfz24_0, hfz24_1, hfz24_2, hfz24_3⟩ := ch4_ BK258
   go_wp2
   refine bodyPost_ret (results_ct rfl _ _ gb258 26 #[.int .i64 0, .int .i64 0, .int .i64 0, .int .i64 0] (0, 0) _ rfl (bp_ BK258).out Try.underlying26 rfl (by kernel_rfl)) rfl ?_
   exact ⟨es_, (bw_ HB).out⟩
  replace H := oc_ H
  obtain ⟨⟨t261, t262, t263, t264, t265⟩, A25, H⟩ := H
  replace H := ib_ H
  rcases H with ⟨rfl, H⟩ | ⟨rfl, H⟩
  ·simp only [Option.some.injEq, Prod.mk.injEq] at H
   obtain ⟨rfl, rfl, rfl, rfl, rfl⟩ := H
   have hnb27 := NB256_257.out
   have hnc27 := NB257_256.out
   have hnb28 := NB256_258.out
   have hnc28 := NB258_256.out
   obtain ⟨hcz29_0, hcz29_1, hcz29_2, hcz29_3, hfz29_0, hfz29_1, hfz29_2, hfz29_3⟩ := ch4_ BK256
   have hnb30 := NB257_258.out
   have hnc30 := NB258_257.out
   obtain ⟨hcz31_0, hcz31_1, hcz31_2, hcz31_3, hfz31_0, hfz31_1, hfz31_2, hfz31_3⟩ := ch4_ BK257
   go_wp2_with (first | ((refine gc_ 28 ?_); refine ge_ 20 Try.func28 #[.agg #[.int .i64 a0_0, .int .i64 a0_1, .int .i64 a0_2, .int .i64 a0_3], .agg #[.int .i64 a1_0, .int .i64 a1_1, .int .i64 a1_2, .int .i64 a1_3]] ?_; (with_reducible refine (spec_l04Times.calls kj2 a0_0 a0_1 a0_2 a0_3 a1_0 a1_1 a1_2 a1_3 t261 t262 t263 t264 true _ A25.out).mono ?_); rintro e w32 ⟨rfl, hb⟩; refine ⟨_, rfl, ?_⟩; replace BK256 := bb_ BK256 hb; replace BK257 := bb_ BK257 hb; replace BK258 := bb_ BK258 hb; replace HB := bt_ HB hb; (try clear hb)) | ((refine gd_ 6 ?_); refine by_ 6 #[.int .i64 0, .int .i64 0, .int .i64 0, .int .i64 0] 26 HB ?_; intro gb266 hg w33 BK266 hb GW266 HB_; have NB256_266 := bm_ BK256 hg; have NB266_256 := bn_ BK256 hg; have NB257_266 := bm_ BK257 hg; have NB266_257 := bn_ BK257 hg; have NB258_266 := bm_ BK258 hg; have NB266_258 := bn_ BK258 hg; replace BK256 := bb_ BK256 hb; replace BK257 := bb_ BK257 hb; replace BK258 := bb_ BK258 hb; replace HB := HB_; clear hb hg; have hnb34 := NB266_256.out; have hnc34 := NB256_266.out; have hnb35 := NB266_257.out; have hnc35 := NB257_266.out; have hnb36 := NB266_258.out; have hnc36 := NB258_266.out; obtain ⟨hcz37_0, hcz37_1, hcz37_2, hcz37_3, hfz37_0, hfz37_1, hfz37_2, hfz37_3⟩ := ch4_ BK266; obtain ⟨hcz38_0, hcz38_1, hcz38_2, hcz38_3, hfz38_0, hfz38_1, hfz38_2, hfz38_3⟩ := ch4_ BK258))
   refine bodyPost_ret (results_ct rfl _ _ gb258 26 #[.int .i64 t261, .int .i64 t262, .int .i64 t263, .int .i64 t264] (0, 0) _ rfl (bp_ BK258).out Try.underlying26 rfl (by kernel_rfl)) rfl ?_
   exact ⟨es_, (bw_ HB).out⟩
  simp only [Option.some.injEq, Prod.mk.injEq] at H
  obtain ⟨rfl, rfl, rfl, rfl, rfl⟩ := H
  have hnb39 := NB256_257.out
  have hnc39 := NB257_256.out
  have hnb40 := NB256_258.out
  have hnc40 := NB258_256.out
  obtain ⟨hcz41_0, hcz41_1, hcz41_2, hcz41_3, hfz41_0, hfz41_1, hfz41_2, hfz41_3⟩ := ch4_ BK256
  have hnb42 := NB257_258.out
  have hnc42 := NB258_257.out
  obtain ⟨hcz43_0, hcz43_1, hcz43_2, hcz43_3, hfz43_0, hfz43_1, hfz43_2, hfz43_3⟩ := ch4_ BK257
  go_wp2_with (first | ((refine gc_ 28 ?_); refine ge_ 20 Try.func28 #[.agg #[.int .i64 a0_0, .int .i64 a0_1, .int .i64 a0_2, .int .i64 a0_3], .agg #[.int .i64 a1_0, .int .i64 a1_1, .int .i64 a1_2, .int .i64 a1_3]] ?_; (with_reducible refine (spec_l04Times.calls kj2 a0_0 a0_1 a0_2 a0_3 a1_0 a1_1 a1_2 a1_3 t261 t262 t263 t264 false _ A25.out).mono ?_); rintro e w44 ⟨rfl, hb⟩; refine ⟨_, rfl, ?_⟩; replace BK256 := bb_ BK256 hb; replace BK257 := bb_ BK257 hb; replace BK258 := bb_ BK258 hb; replace HB := bt_ HB hb; (try clear hb)) | ((refine gd_ 6 ?_); refine by_ 6 #[.int .i64 0, .int .i64 0, .int .i64 0, .int .i64 0] 26 HB ?_; intro gb266 hg w45 BK266 hb GW266 HB_; have NB256_266 := bm_ BK256 hg; have NB266_256 := bn_ BK256 hg; have NB257_266 := bm_ BK257 hg; have NB266_257 := bn_ BK257 hg; have NB258_266 := bm_ BK258 hg; have NB266_258 := bn_ BK258 hg; replace BK256 := bb_ BK256 hb; replace BK257 := bb_ BK257 hb; replace BK258 := bb_ BK258 hb; replace HB := HB_; clear hb hg; have hnb46 := NB266_256.out; have hnc46 := NB256_266.out; have hnb47 := NB266_257.out; have hnc47 := NB257_266.out; have hnb48 := NB266_258.out; have hnc48 := NB258_266.out; obtain ⟨hcz49_0, hcz49_1, hcz49_2, hcz49_3, hfz49_0, hfz49_1, hfz49_2, hfz49_3⟩ := ch4_ BK266; obtain ⟨hcz50_0, hcz50_1, hcz50_2, hcz50_3, hfz50_0, hfz50_1, hfz50_2, hfz50_3⟩ := ch4_ BK258))
  refine bodyPost_ret (results_ct rfl _ _ gb258 26 #[.int .i64 0, .int .i64 0, .int .i64 0, .int .i64 0] (0, 0) _ rfl (bp_ BK258).out Try.underlying26 rfl (by kernel_rfl)) rfl ?_
  exact ⟨es_, (bw_ HB).out⟩
/-! ### spec_IsMatrix: function 9 -/
def spec_IsMatrix.f (k : Nat) (a0_0 a0_1 a0_2 a0_3 : Int) : Option (Bool) := (spec_l04Is.f k a0_0 a0_1 a0_2 a0_3).bind fun t268 => (some t268)
theorem spec_IsMatrix.calls (k : Nat) (a0_0 a0_1 a0_2 a0_3 : Int) (r : Bool) (w : World) (h : spec_IsMatrix.f k a0_0 a0_1 a0_2 a0_3 = some r) :
  Calls Try.prog 9 #[.agg #[.int .i64 a0_0, .int .i64 a0_1, .int .i64 a0_2, .int .i64 a0_3]] w fun e w' => e = .returned (.bool r) ∧ Below w.heap.size w w' := by
 have hu26 := Try.underlying26
 have HB := Aside0.mk (Below.refl w.heap.size w)
 unfold spec_IsMatrix.f at h
 have H := h
 clear h
 replace H := oc_ H
 obtain ⟨t268, A2, H⟩ := H
 obtain rfl := si_ H
 go_enter Try.func9, Try.ntmps9
 go_wp2_with (first | ((refine gd_ 1 ?_); refine by_ 1 #[.int .i64 a0_0, .int .i64 a0_1, .int .i64 a0_2, .int .i64 a0_3] 26 HB ?_; intro gb267 hg w3 BK267 hb GW267 HB_; replace HB := HB_; clear hb hg; obtain ⟨hcz4_0, hcz4_1, hcz4_2, hcz4_3, hfz4_0, hfz4_1, hfz4_2, hfz4_3⟩ := ch4_ BK267) | ((refine gc_ 27 ?_); refine ge_ 4 Try.func27 #[.agg #[.int .i64 a0_0, .int .i64 a0_1, .int .i64 a0_2, .int .i64 a0_3]] ?_; (with_reducible refine (spec_l04Is.calls k a0_0 a0_1 a0_2 a0_3 t268 _ A2.out).mono ?_); rintro e w5 ⟨rfl, hb⟩; refine ⟨_, rfl, ?_⟩; replace BK267 := bb_ BK267 hb; replace HB := bt_ HB hb; (try clear hb)))
 go_ret
 exact ⟨es_, (bw_ HB).out⟩
end Go.Proofs.Yteniblbnmcfmjaa.QM
