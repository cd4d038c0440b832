import Derived.Test.YtdfcoebadjhjlaaQGx6
import Derived.Test.YtdfcoebadjhjlaaQGx19
import Derived.Test.YtdfcoebadjhjlaaQGx22
import Derived.Test.YtdfcoebadjhjlaaQGx28
import Derived.Test.YtdfcoebadjhjlaaQGx30
namespace Go.Proofs.Ytdfcoebadjhjlaa.QG
open Go.RowKit Go.Proofs.YtdfcoebadjhjlaaW.PrintWords Go.Proofs.YtdfcoebadjhjlaaW.PrintLast Go.Proofs.YtdfcoebadjhjlaaW.PrintMore
attribute [local go_sem] isSome_setCell max2_int min2_int max_two min_two max_three min_three max_four min_four
set_option linter.unusedVariables false
set_option linter.unusedSimpArgs false

/-! ### spec_CoarsenAt: function 16 -/
def spec_CoarsenAt.l0 : Nat → Int → List (S72) → Int → Int → Int → Int → Int → List (S72) → Int → Int → Int → Option (Int × Int × Int × (List (S72)) × Int)
 | 0, _, _, _, _, _, _, _, _, _, _, _ => none
 | k + 1, x0, x11, x12, x13, x272000, x272001, x272002, x272003, x273000, x273001, x273002 => if x13 < (x272003.length : Int) then (if 0 ≤ x13 then ((spec_l01Holds.f k x0 x273000 x273001 x273002 ((rd_T72 x272003 x13).f0.f0) ((rd_T72 x272003 x13).f0.f1) ((rd_T72 x272003 x13).f0.f2)).bind fun t295 => (if t295 = true then ((spec_l01In.f (wrap64 (x12 + ((rd_T72 x272003 x13).f1))) (-1000000) 1000000).bind fun t297 => (if t297 = true then (spec_CoarsenAt.l0 k x0 x11 (wrap64 (x12 + ((rd_T72 x272003 x13).f1))) (wrap64 (x13 + 1)) x272000 x272001 x272002 x272003 x273000 x273001 x273002) else (some (0, 0, 0, ([] : List (S72)), 3)))) else ((some (([(⟨(⟨(rd_T72 x272003 x13).f0.f0, (rd_T72 x272003 x13).f0.f1, (rd_T72 x272003 x13).f0.f2⟩ : S31), (rd_T72 x272003 x13).f1⟩ : S72)] : List (S72)) : List (S72))).bind fun y299 => (if x11.length + y299.length < 4398046511104 then (spec_CoarsenAt.l0 k x0 (x11 ++ y299) x12 (wrap64 (x13 + 1)) x272000 x272001 x272002 x272003 x273000 x273001 x273002) else (none))))) else (none)) else ((some (([(⟨(⟨x273000, x273001, x273002⟩ : S31), x12⟩ : S72)] : List (S72)) : List (S72))).bind fun y280 => (if x11.length + y280.length < 4398046511104 then ((spec_l08Told.f k x0 x272000 x272001 x272002 (x11 ++ y280)).bind fun bt286 => (some (bt286.1, bt286.2.1, bt286.2.2.1, bt286.2.2.2.1, bt286.2.2.2.2))) else (none)))
def spec_CoarsenAt.f (k : Nat) (a0 a1_0 a1_1 a1_2 : Int) (l1_3 : List (S72)) (a2_0 a2_1 a2_2 : Int) : Option (Int × Int × Int × (List (S72)) × Int) := (spec_l08Code.f k a0 a1_0 a1_1 a1_2 l1_3 a2_0 a2_1 a2_2).bind fun t274 => (if t274 = 0 then ((spec_l08Within.f k a0 a1_0 a1_1 a1_2 l1_3 a2_0 a2_1 a2_2).bind fun bt275 => (if bt275.1 = true then (some (0, 0, 0, ([] : List (S72)), 5)) else (spec_CoarsenAt.l0 k a0 (([] : List (S72))) 0 0 a1_0 a1_1 a1_2 l1_3 a2_0 a2_1 a2_2))) else (some (0, 0, 0, ([] : List (S72)), t274)))
def spec_CoarsenAt.T11 : Bool × List (List Nat × List Nat) := (true, [([], []), ([], []), ([], []), ([2], [2]), ([], []), ([3, 4], [3, 4]), ([5], [5]), ([6], [6]), ([0, 1, 7], [0, 1, 7]), ([8], [8])])
def spec_CoarsenAt.B11 : List Nat := [0, 0, 0, 4, 0, 28, 60, 124, 255, 511]
theorem spec_CoarsenAt.tab11 : rtab .any (opsOf Try.f16 11) = spec_CoarsenAt.T11 := by kernel_rfl
theorem spec_CoarsenAt.bits11 : waitsOk spec_CoarsenAt.T11.2 spec_CoarsenAt.B11 = true := by kernel_rfl
def spec_CoarsenAt.T16 : Bool × List (List Nat × List Nat) := (true, [([], []), ([], []), ([1], [1]), ([], []), ([], []), ([], []), ([4, 5], [4, 5]), ([6], [6]), ([3, 7], [3, 7]), ([0, 2, 8, 8], [0, 2, 8]), ([9], [9]), ([10], [10]), ([10], [10]), ([], []), ([13, 11, 9, 0, 1, 2, 3, 4, 5, 6, 7, 8, 9, 10, 11, 13], [11, 13]), ([12, 14, 0, 1, 2, 3, 4, 5, 6, 7, 8, 9, 10, 11, 12, 13, 14], [12])])
def spec_CoarsenAt.B16 : List Nat := [0, 0, 2, 0, 0, 0, 48, 112, 248, 511, 1023, 2047, 2047, 0, 12287, 32767]
theorem spec_CoarsenAt.tab16 : rtab .any (opsOf Try.f16 16) = spec_CoarsenAt.T16 := by kernel_rfl
theorem spec_CoarsenAt.bits16 : waitsOk spec_CoarsenAt.T16.2 spec_CoarsenAt.B16 = true := by kernel_rfl
set_option maxHeartbeats 8000000 in
set_option maxRecDepth 100000 in
theorem spec_CoarsenAt.calls (k : Nat) (a0 a1_0 a1_1 a1_2 : Int) (A1_3 : Option Addr) (c1_3 : Nat) (l1_3 : List (S72)) (a2_0 a2_1 a2_2 r1 r2 r3 : Int) (r4 : List (S72)) (r5 : Int) (w : World) (hr1_3 : Kd.C k72 w A1_3 l1_3.length l1_3) (hc1_3 : l1_3.length ≤ c1_3) (h : spec_CoarsenAt.f k a0 a1_0 a1_1 a1_2 l1_3 a2_0 a2_1 a2_2 = some (r1, r2, r3, r4, r5)) :
  Calls Try.prog 16 #[.int .i64 a0, .agg #[.int .i64 a1_0, .int .i64 a1_1, .int .i64 a1_2, .slice A1_3 l1_3.length c1_3], .agg #[.int .i64 a2_0, .int .i64 a2_1, .int .i64 a2_2]] w fun e w' => ∃ v3_ : Value, e = .returned (.tuple #[.agg #[.int .i64 r1, .int .i64 r2, .int .i64 r3, v3_], .int .i64 r5]) ∧ Kd.R k72 72 w' w.heap.size (fun _ => True) v3_ r4 ∧ Below w.heap.size w w' := by
 have hu34 := Try.underlying34
 have hu31 := Try.underlying31
 have hu72 := Try.underlying72
 have HR1_3 := Aside0.mk hr1_3
 have HC1_3 := Aside0.mk hc1_3
 clear hr1_3 hc1_3
 have HB := Aside0.mk (Below.refl w.heap.size w)
 unfold spec_CoarsenAt.f at h
 have H := h
 clear h
 replace H := oc_ H
 obtain ⟨t274, A4, H⟩ := H
 replace H := ie_ H
 rcases H with ⟨c5b0, c5b1, H⟩ | ⟨c5, c5b0, c5b1, H⟩
 ·replace H := oc_ H
  obtain ⟨⟨t275, t276⟩, A6, H⟩ := H
  replace H := ib_ H
  rcases H with ⟨rfl, H⟩ | ⟨rfl, H⟩
  ·simp only [Option.some.injEq, Prod.mk.injEq] at H
   obtain ⟨rfl, rfl, rfl, rfl, rfl⟩ := H
   go_enter Try.func16, Try.ntmps16
   go_wp2_with (first | ((refine gd_ 4 ?_); refine by_ 4 #[.int .i64 a1_0, .int .i64 a1_1, .int .i64 a1_2, .slice A1_3 l1_3.length c1_3] 34 HB ?_; intro gb271 hg w8 BK271 hb GW271 HB_; replace HB := HB_; clear hb hg) | ((refine gd_ 5 ?_); refine by_ 5 #[.int .i64 a2_0, .int .i64 a2_1, .int .i64 a2_2] 31 HB ?_; intro gb272 hg w9 BK272 hb GW272 HB_; have NB271_272 := bm_ BK271 hg; have NB272_271 := bn_ BK271 hg; replace BK271 := bb_ BK271 hb; replace HB := HB_; clear hb hg) | ((refine gd_ 6 ?_); refine by_ 6 #[.int .i64 0, .int .i64 0, .int .i64 0, .slice none 0 0] 34 HB ?_; intro gb273 hg w10 BK273 hb GW273 HB_; have NB271_273 := bm_ BK271 hg; have NB273_271 := bn_ BK271 hg; have NB272_273 := bm_ BK272 hg; have NB273_272 := bn_ BK272 hg; replace BK271 := bb_ BK271 hb; replace BK272 := bb_ BK272 hb; replace HB := HB_; clear hb hg; have hnb11 := NB271_272.out; have hnc11 := NB272_271.out; have hnb12 := NB271_273.out; have hnc12 := NB273_271.out; obtain ⟨hcz13_0, hcz13_1, hcz13_2, hcz13_3, hfz13_0, hfz13_1, hfz13_2, hfz13_3⟩ := ch4_ BK271; have hnb14 := NB272_273.out; have hnc14 := NB273_272.out; obtain ⟨hcz15_0, hcz15_1, hcz15_2, hfz15_0, hfz15_1, hfz15_2⟩ := ch3_ BK272) | ((refine gc_ 39 ?_); refine ge_ 19 Try.func39 #[.int .i64 a0, .agg #[.int .i64 a1_0, .int .i64 a1_1, .int .i64 a1_2, .slice A1_3 l1_3.length c1_3], .agg #[.int .i64 a2_0, .int .i64 a2_1, .int .i64 a2_2]] ?_; (with_reducible refine (spec_l08Code.calls k a0 a1_0 a1_1 a1_2 _ _ l1_3 a2_0 a2_1 a2_2 t274 _ ?side1 ?side2 A4.out).mono ?_); (case side1 => exact ca_ (Kd.C_below HR1_3.out HB.out)); (case side2 => exact HC1_3.out); rintro e w16 ⟨rfl, hb⟩; refine ⟨_, rfl, ?_⟩; replace BK271 := bb_ BK271 hb; replace BK272 := bb_ BK272 hb; replace BK273 := bb_ BK273 hb; replace HB := bt_ HB hb; (try clear hb); obtain ⟨hcz17_0, hcz17_1, hcz17_2, hcz17_3, hfz17_0, hfz17_1, hfz17_2, hfz17_3⟩ := ch4_ BK271; obtain ⟨hcz18_0, hcz18_1, hcz18_2, hfz18_0, hfz18_1, hfz18_2⟩ := ch3_ BK272) | ((refine gc_ 40 ?_); refine ge_ 28 Try.func40 #[.int .i64 a0, .agg #[.int .i64 a1_0, .int .i64 a1_1, .int .i64 a1_2, .slice A1_3 l1_3.length c1_3], .agg #[.int .i64 a2_0, .int .i64 a2_1, .int .i64 a2_2]] ?_; (with_reducible refine (spec_l08Within.calls k a0 a1_0 a1_1 a1_2 _ _ l1_3 a2_0 a2_1 a2_2 true t276 _ ?side1 ?side2 A6.out).mono ?_); (case side1 => exact ca_ (Kd.C_below HR1_3.out HB.out)); (case side2 => exact HC1_3.out); rintro e w19 ⟨rfl, hb⟩; refine ⟨_, rfl, ?_⟩; replace BK271 := bb_ BK271 hb; replace BK272 := bb_ BK272 hb; replace BK273 := bb_ BK273 hb; replace HB := bt_ HB hb; (try clear hb); obtain ⟨hcz20_0, hcz20_1, hcz20_2, hcz20_3, hfz20_0, hfz20_1, hfz20_2, hfz20_3⟩ := ch4_ BK273))
   refine bodyPost_ret (results_ct rfl _ _ gb273 34 #[.int .i64 0, .int .i64 0, .int .i64 0, .slice none 0 0] (0, 0) _ rfl (bp_ BK273).out Try.underlying34 rfl (by kernel_rfl)) rfl ?_
   exact ⟨_, es_, by first | exact Kd.R_nil _ _ _ _ _ | exact Kd.N_nil _ _ _ _ _ | exact Kd.V_nil _ _ _ _ _ | exact Kd.Q_nil _ _ _ _ _ | exact Kd.S_nil _ _ _ _ _, (bw_ HB).out⟩
  obtain ⟨y277, hy277⟩ : ∃ y_ : List (S72), y_ = (([] : List (S72))) := ⟨_, rfl⟩
  replace H : (spec_CoarsenAt.l0 k a0 y277 0 0 a1_0 a1_1 a1_2 l1_3 a2_0 a2_1 a2_2) = some (r1, r2, r3, r4, r5) := by first | (rw [hy277]; with_reducible exact H) | (have H2_ := (Option.bind_some _ _).symm.trans H; rw [hy277]; with_reducible exact H2_) | (have H2_ := (Option.bind_some _ _).symm.trans H; with_reducible exact H2_) | with_reducible exact H | (rw [hy277]; exact H) | exact H
  have Ny277 := Aside0.mk hy277
  clear hy277
  have H' := Aside0.mk H
  clear H
  go_enter Try.func16, Try.ntmps16
  go_wp2_with (first | ((refine gd_ 4 ?_); refine by_ 4 #[.int .i64 a1_0, .int .i64 a1_1, .int .i64 a1_2, .slice A1_3 l1_3.length c1_3] 34 HB ?_; intro gb271 hg w21 BK271 hb GW271 HB_; replace HB := HB_; clear hb hg) | ((refine gd_ 5 ?_); refine by_ 5 #[.int .i64 a2_0, .int .i64 a2_1, .int .i64 a2_2] 31 HB ?_; intro gb272 hg w22 BK272 hb GW272 HB_; have NB271_272 := bm_ BK271 hg; have NB272_271 := bn_ BK271 hg; replace BK271 := bb_ BK271 hb; replace HB := HB_; clear hb hg) | ((refine gd_ 6 ?_); refine by_ 6 #[.int .i64 0, .int .i64 0, .int .i64 0, .slice none 0 0] 34 HB ?_; intro gb273 hg w23 BK273 hb GW273 HB_; have NB271_273 := bm_ BK271 hg; have NB273_271 := bn_ BK271 hg; have NB272_273 := bm_ BK272 hg; have NB273_272 := bn_ BK272 hg; replace BK271 := bb_ BK271 hb; replace BK272 := bb_ BK272 hb; replace HB := HB_; clear hb hg; have hnb24 := NB271_272.out; have hnc24 := NB272_271.out; have hnb25 := NB271_273.out; have hnc25 := NB273_271.out; obtain ⟨hcz26_0, hcz26_1, hcz26_2, hcz26_3, hfz26_0, hfz26_1, hfz26_2, hfz26_3⟩ := ch4_ BK271; have hnb27 := NB272_273.out; have hnc27 := NB273_272.out; obtain ⟨hcz28_0, hcz28_1, hcz28_2, hfz28_0, hfz28_1, hfz28_2⟩ := ch3_ BK272) | ((refine gc_ 39 ?_); refine ge_ 19 Try.func39 #[.int .i64 a0, .agg #[.int .i64 a1_0, .int .i64 a1_1, .int .i64 a1_2, .slice A1_3 l1_3.length c1_3], .agg #[.int .i64 a2_0, .int .i64 a2_1, .int .i64 a2_2]] ?_; (with_reducible refine (spec_l08Code.calls k a0 a1_0 a1_1 a1_2 _ _ l1_3 a2_0 a2_1 a2_2 t274 _ ?side1 ?side2 A4.out).mono ?_); (case side1 => exact ca_ (Kd.C_below HR1_3.out HB.out)); (case side2 => exact HC1_3.out); rintro e w29 ⟨rfl, hb⟩; refine ⟨_, rfl, ?_⟩; replace BK271 := bb_ BK271 hb; replace BK272 := bb_ BK272 hb; replace BK273 := bb_ BK273 hb; replace HB := bt_ HB hb; (try clear hb); obtain ⟨hcz30_0, hcz30_1, hcz30_2, hcz30_3, hfz30_0, hfz30_1, hfz30_2, hfz30_3⟩ := ch4_ BK271; obtain ⟨hcz31_0, hcz31_1, hcz31_2, hfz31_0, hfz31_1, hfz31_2⟩ := ch3_ BK272) | ((refine gc_ 40 ?_); refine ge_ 28 Try.func40 #[.int .i64 a0, .agg #[.int .i64 a1_0, .int .i64 a1_1, .int .i64 a1_2, .slice A1_3 l1_3.length c1_3], .agg #[.int .i64 a2_0, .int .i64 a2_1, .int .i64 a2_2]] ?_; (with_reducible refine (spec_l08Within.calls k a0 a1_0 a1_1 a1_2 _ _ l1_3 a2_0 a2_1 a2_2 false t276 _ ?side1 ?side2 A6.out).mono ?_); (case side1 => exact ca_ (Kd.C_below HR1_3.out HB.out)); (case side2 => exact HC1_3.out); rintro e w32 ⟨rfl, hb⟩; refine ⟨_, rfl, ?_⟩; replace BK271 := bb_ BK271 hb; replace BK272 := bb_ BK272 hb; replace BK273 := bb_ BK273 hb; replace HB := bt_ HB hb; (try clear hb)) | ((refine gd_ 33 ?_); refine Kd.R_lit k72 _ 72 ?hg (N := 33) ?hd (xs := ([] : List (S72))) (inner := []) (ok := fun _ => True) (okp := fun _ => True) ?hr ?hp (fun _ hk => hk) trivial (Below.refl _ _) (Nat.le_refl _) (by simp) ?_; (case hd => rfl); (case hg => rfl); (case hr => first | (go_simp; done) | (go_simp; rfl)); (case hp => exact (Reps.none _ _)); intro v278 w33 ho34 hb hg_ hnew_; clear hg_ hnew_; (first | rw [← Ny277.out] at ho34 | (simp only [Int.reduceToNat] at ho34; rw [← Ny277.out] at ho34)); have HO279 := Aside0.mk (Kd.R_lower ho34 (below_size (bw_ HB).out)); replace BK271 := bb_ BK271 hb; replace BK272 := bb_ BK272 hb; replace BK273 := bb_ BK273 hb; replace HB := bt_ HB hb; clear hb ho34))
  go_loopg [11, 12, 13] k (fun kq v11 v12 v13 w' => ∃ (x11_1 : List (S72)) (x12_1 : Int) (x13_1 : Int) (x274000_1 : Int) (x274001_1 : Int) (x274002_1 : Int), v12 = .int .i64 x12_1 ∧ v13 = .int .i64 x13_1 ∧ Aside0 (spec_CoarsenAt.l0 kq a0 x11_1 x12_1 x13_1 a1_0 a1_1 a1_2 l1_3 a2_0 a2_1 a2_2 = some (r1, r2, r3, r4, r5)) ∧ Aside0 (kq ≤ k) ∧ Aside0 (Kd.R k72 72 w' w.heap.size (fun _ => True) v11 x11_1) ∧ Aside0 (w'.heap[gb271]? = some (.cells #[.int .i64 a1_0, .int .i64 a1_1, .int .i64 a1_2, (.slice A1_3 l1_3.length c1_3)] 34 (0, 0))) ∧ Aside0 (w'.heap[gb272]? = some (.cells #[.int .i64 a2_0, .int .i64 a2_1, .int .i64 a2_2] 31 (0, 0))) ∧ Aside0 (w'.heap[gb273]? = some (.cells #[.int .i64 x274000_1, .int .i64 x274001_1, .int .i64 x274002_1, (.slice none 0 0)] 34 (0, 0))) ∧ Aside0 (Below w.heap.size w w'))
  case atStart => exact ⟨(y277), (0), (0), (0), (0), (0), en_, en_, H', ⟨Nat.le_refl _⟩, ⟨by (with_reducible repeat (first | apply Kd.R_alloc | apply Kd.R_drewN | apply Kd.R_drew)); exact HO279.out⟩, bl_ BK271, bl_ BK272, bl_ BK273, bw_ HB⟩
  clear H'
  try clear c4
  try clear c5
  try clear c5b0
  try clear c5b1
  try clear hcz13_0 hcz13_1 hcz13_2 hcz13_3
  try clear hcz15_0 hcz15_1 hcz15_2
  try clear hcz17_0 hcz17_1 hcz17_2 hcz17_3
  try clear hcz18_0 hcz18_1 hcz18_2
  try clear hcz20_0 hcz20_1 hcz20_2 hcz20_3
  try clear hcz26_0 hcz26_1 hcz26_2 hcz26_3
  try clear hcz28_0 hcz28_1 hcz28_2
  try clear hcz30_0 hcz30_1 hcz30_2 hcz30_3
  try clear hcz31_0 hcz31_1 hcz31_2
  try clear hfz13_0 hfz13_1 hfz13_2 hfz13_3
  try clear hfz15_0 hfz15_1 hfz15_2
  try clear hfz17_0 hfz17_1 hfz17_2 hfz17_3
  try clear hfz18_0 hfz18_1 hfz18_2
  try clear hfz20_0 hfz20_1 hfz20_2 hfz20_3
  try clear hfz26_0 hfz26_1 hfz26_2 hfz26_3
  try clear hfz28_0 hfz28_1 hfz28_2
  try clear hfz30_0 hfz30_1 hfz30_2 hfz30_3
  try clear hfz31_0 hfz31_1 hfz31_2
  obtain ⟨x11_1, x12_1, x13_1, x274000_1, x274001_1, x274002_1, rfl, rfl, HA, HK1, HO_11, BK271, BK272, BK273, HB⟩ := hrel
  cases gk with
  | zero => exact absurd HA.out (by simp [spec_CoarsenAt.l0])
  | succ k1 =>
   have H := HA.out
   clear HA
   simp only [spec_CoarsenAt.l0] at H
   replace H := il_ H
   rcases H with ⟨c35b0, H⟩ | ⟨c35b0, H⟩
   ·replace H := imn_ H
    obtain ⟨c36b0, H⟩ := H
    replace H := oc_ H
    obtain ⟨t295, A37, H⟩ := H
    replace H := ib_ H
    rcases H with ⟨rfl, H⟩ | ⟨rfl, H⟩
    ·replace H := oc_ H
     obtain ⟨t297, A39, H⟩ := H
     replace H := ib_ H
     rcases H with ⟨rfl, H⟩ | ⟨rfl, H⟩
     ·have H' := Aside0.mk H
      clear H
      have hnb41 := NB271_272.out
      have hnc41 := NB272_271.out
      have hnb42 := NB271_273.out
      have hnc42 := NB273_271.out
      obtain ⟨hcz43_0, hcz43_1, hcz43_2, hcz43_3, hfz43_0, hfz43_1, hfz43_2, hfz43_3⟩ := ch4_ BK271
      try go_wp2
      replace HO_11 := Aside0.mk (Kd.R_drew HO_11.out)
      replace BK271 := bd_ BK271
      replace BK272 := bd_ BK272
      replace BK273 := bd_ BK273
      replace HB := be_ HB
      have p294 : 0 ≤ (x13_1 : Int) := od_
      have q294 : x13_1 < (l1_3.length : Int) := od_
      obtain ⟨ad294, e294, hx294_0, hx294_1, hx294_2, hx294_3⟩ := at_T72 HR1_3.out x13_1 p294 q294
      have hw294_3 := hx294_3
      have hw294_2 := hx294_2
      have hw294_1 := hx294_1
      have hw294_0 := hx294_0
      cases e294
      replace hx294_0 := clTr HB.out hx294_0
      replace hx294_1 := clTr HB.out hx294_1
      replace hx294_2 := clTr HB.out hx294_2
      replace hx294_3 := clTr HB.out hx294_3
      replace p294 := eq_true p294
      replace q294 := eq_true q294
      refine start_ (n := 10) (S := fun w' => w'.cell? ⟨gb272, 0, none⟩ = some (.int .i64 a2_0) ∧ w'.cell? ⟨gb272, 1, none⟩ = some (.int .i64 a2_1) ∧ w'.cell? ⟨gb272, 2, none⟩ = some (.int .i64 a2_2) ∧ w'.cell? ⟨gb271, 0, none⟩ = some (.int .i64 a1_0) ∧ w'.cell? ⟨gb271, 1, none⟩ = some (.int .i64 a1_1) ∧ w'.cell? ⟨gb271, 2, none⟩ = some (.int .i64 a1_2) ∧ w'.cell? ⟨gb271, 3, none⟩ = some (.slice (some ad294) l1_3.length c1_3) ∧ w'.cell? (ad294.add ((x13_1).toNat * 4)) = some (.int .i64 ((rd_T72 l1_3 x13_1).f0.f0)) ∧ w'.cell? ⟨(ad294.add ((x13_1).toNat * 4)).block, (ad294.add ((x13_1).toNat * 4)).off + 1, none⟩ = some (.int .i64 ((rd_T72 l1_3 x13_1).f0.f1)) ∧ w'.cell? ⟨(ad294.add ((x13_1).toNat * 4)).block, (ad294.add ((x13_1).toNat * 4)).off + 2, none⟩ = some (.int .i64 ((rd_T72 l1_3 x13_1).f0.f2)) ∧ w'.cell? ⟨(ad294.add ((x13_1).toNat * 4)).block, (ad294.add ((x13_1).toNat * 4)).off + 3, none⟩ = some (.int .i64 ((rd_T72 l1_3 x13_1).f1))) (ds := []) (bv_ 10 0) (by kernel_rfl) rfl rfl ⟨cz_ BK272 0, cz_ BK272 1, cz_ BK272 2, cz_ BK271 0, cz_ BK271 1, cz_ BK271 2, cz_ BK271 3, (clTr HB.out hw294_0 :), (clTr HB.out hw294_1 :), (clTr HB.out hw294_2 :), (clTr HB.out hw294_3 :)⟩ (fun hHeld => ?_); refine with_tabW spec_CoarsenAt.tab11 spec_CoarsenAt.bits11 (fun HT_ HW_ => ?_)
      generalize wr.drew = w44 at HO_11 BK271 BK272 BK273 HB hx294_0 hx294_1 hx294_2 hx294_3 hHeld ⊢
      refine px_ HT_ 0 41 1 ?_
      refine px_ HT_ 2 43 5 ?_
      refine px_ HT_ 4 45 21 ?_
      refine ta_ HT_ HW_ 1 (some 42) (bv_ 10 23) hHeld ?_ (hy := by rintro w' ⟨s0, s1, s2, s3, s4, s5, s6, s7, s8, s9, s10⟩; go_simp; with_reducible rfl)
      refine ta_ HT_ HW_ 3 (some 44) (bv_ 10 31) hHeld ?_ (hy := by rintro w' ⟨s0, s1, s2, s3, s4, s5, s6, s7, s8, s9, s10⟩; go_simp; with_reducible rfl)
      refine px_ HT_ 5 46 63 ?_
      refine px_ HT_ 6 47 127 ?_
      refine ta_ HT_ HW_ 7 (some 48) (bv_ 10 255) hHeld ?_ (hy := by rintro w' ⟨s0, s1, s2, s3, s4, s5, s6, s7, s8, s9, s10⟩; go_simp; with_reducible rfl)
      refine on_ HT_ 8 (some 49) (bv_ 10 511) (fun K hK => ?_)
      refine gs_ Try.func41 #[.int .i64 a0, .agg #[.int .i64 a2_0, .int .i64 a2_1, .int .i64 a2_2], .agg #[.int .i64 ((rd_T72 l1_3 x13_1).f0.f0), .int .i64 ((rd_T72 l1_3 x13_1).f0.f1), .int .i64 ((rd_T72 l1_3 x13_1).f0.f2)]] ?_
      with_reducible refine (spec_l01Holds.calls k1 a0 a2_0 a2_1 a2_2 ((rd_T72 l1_3 x13_1).f0.f0) ((rd_T72 l1_3 x13_1).f0.f1) ((rd_T72 l1_3 x13_1).f0.f2) true _ A37.out).mono ?_
      rintro e w45 ⟨rfl, hb⟩
      refine ⟨_, rfl, ?_⟩
      replace HO_11 := rb_ HO_11 hb
      replace BK271 := bb_ BK271 hb
      replace BK272 := bb_ BK272 hb
      replace BK273 := bb_ BK273 hb
      replace HB := bt_ HB hb
      try clear hb
      refine hK.out _ _ ⟨cz_ BK272 0, cz_ BK272 1, cz_ BK272 2, cz_ BK271 0, cz_ BK271 1, cz_ BK271 2, cz_ BK271 3, (clTr HB.out hw294_0 :), (clTr HB.out hw294_1 :), (clTr HB.out hw294_2 :), (clTr HB.out hw294_3 :)⟩ (fun hHeld => ?_)
      clear hK K
      refine nm_ (some 49) ?_
      refine px_ HT_ 9 50 1023 ?_
      refine done_ (done_of HT_.out (by kernel_rfl)) ?_
      obtain ⟨hcz46_0, hcz46_1, hcz46_2, hcz46_3, hfz46_0, hfz46_1, hfz46_2, hfz46_3⟩ := ch4_ BK271
      have p296 : 0 ≤ (x13_1 : Int) := od_
      have q296 : x13_1 < (l1_3.length : Int) := od_
      obtain ⟨ad296, e296, hx296_0, hx296_1, hx296_2, hx296_3⟩ := at_T72 HR1_3.out x13_1 p296 q296
      obtain rfl : ad294 = ad296 := (by injection e296)
      replace hx296_0 := clTr HB.out hx296_0
      replace hx296_1 := clTr HB.out hx296_1
      replace hx296_2 := clTr HB.out hx296_2
      replace hx296_3 := clTr HB.out hx296_3
      replace p296 := eq_true p296
      replace q296 := eq_true q296
      try go_wp2_with (first | ((refine gc_ 42 ?_); refine ge_ 68 Try.func42 #[.int .i64 (wrap64 (x12_1 + ((rd_T72 l1_3 x13_1).f1))), .int .i64 (-1000000), .int .i64 1000000] ?_; (with_reducible refine (spec_l01In.calls (wrap64 (x12_1 + ((rd_T72 l1_3 x13_1).f1))) (-1000000) 1000000 true _ A39.out).mono ?_); rintro e w' ⟨rfl, ⟨nd, rfl⟩⟩; refine ⟨_, rfl, ?_⟩))
      go_roundg k1
      case measure => have := HK1.out; omega
      case rel => exact ⟨(x11_1), (wrap64 (x12_1 + ((rd_T72 l1_3 x13_1).f1))), (wrap64 (x13_1 + 1)), (x274000_1), (x274001_1), (x274002_1), en_, en_, H', ⟨by have := HK1.out; omega⟩, ⟨by (with_reducible repeat (first | apply Kd.R_alloc | apply Kd.R_drewN | apply Kd.R_drew)); exact HO_11.out⟩, bl_ BK271, bl_ BK272, bl_ BK273, bw_ HB⟩
     simp only [Option.some.injEq, Prod.mk.injEq] at H
     obtain ⟨rfl, rfl, rfl, rfl, rfl⟩ := H
     have hnb47 := NB271_272.out
     have hnc47 := NB272_271.out
     have hnb48 := NB271_273.out
     have hnc48 := NB273_271.out
     obtain ⟨hcz49_0, hcz49_1, hcz49_2, hcz49_3, hfz49_0, hfz49_1, hfz49_2, hfz49_3⟩ := ch4_ BK271
     try go_wp2
     replace HO_11 := Aside0.mk (Kd.R_drew HO_11.out)
     replace BK271 := bd_ BK271
     replace BK272 := bd_ BK272
     replace BK273 := bd_ BK273
     replace HB := be_ HB
     have p294 : 0 ≤ (x13_1 : Int) := od_
     have q294 : x13_1 < (l1_3.length : Int) := od_
     obtain ⟨ad294, e294, hx294_0, hx294_1, hx294_2, hx294_3⟩ := at_T72 HR1_3.out x13_1 p294 q294
     have hw294_3 := hx294_3
     have hw294_2 := hx294_2
     have hw294_1 := hx294_1
     have hw294_0 := hx294_0
     cases e294
     replace hx294_0 := clTr HB.out hx294_0
     replace hx294_1 := clTr HB.out hx294_1
     replace hx294_2 := clTr HB.out hx294_2
     replace hx294_3 := clTr HB.out hx294_3
     replace p294 := eq_true p294
     replace q294 := eq_true q294
     refine start_ (n := 10) (S := fun w' => w'.cell? ⟨gb272, 0, none⟩ = some (.int .i64 a2_0) ∧ w'.cell? ⟨gb272, 1, none⟩ = some (.int .i64 a2_1) ∧ w'.cell? ⟨gb272, 2, none⟩ = some (.int .i64 a2_2) ∧ w'.cell? ⟨gb271, 0, none⟩ = some (.int .i64 a1_0) ∧ w'.cell? ⟨gb271, 1, none⟩ = some (.int .i64 a1_1) ∧ w'.cell? ⟨gb271, 2, none⟩ = some (.int .i64 a1_2) ∧ w'.cell? ⟨gb271, 3, none⟩ = some (.slice (some ad294) l1_3.length c1_3) ∧ w'.cell? (ad294.add ((x13_1).toNat * 4)) = some (.int .i64 ((rd_T72 l1_3 x13_1).f0.f0)) ∧ w'.cell? ⟨(ad294.add ((x13_1).toNat * 4)).block, (ad294.add ((x13_1).toNat * 4)).off + 1, none⟩ = some (.int .i64 ((rd_T72 l1_3 x13_1).f0.f1)) ∧ w'.cell? ⟨(ad294.add ((x13_1).toNat * 4)).block, (ad294.add ((x13_1).toNat * 4)).off + 2, none⟩ = some (.int .i64 ((rd_T72 l1_3 x13_1).f0.f2)) ∧ w'.cell? ⟨(ad294.add ((x13_1).toNat * 4)).block, (ad294.add ((x13_1).toNat * 4)).off + 3, none⟩ = some (.int .i64 ((rd_T72 l1_3 x13_1).f1))) (ds := []) (bv_ 10 0) (by kernel_rfl) rfl rfl ⟨cz_ BK272 0, cz_ BK272 1, cz_ BK272 2, cz_ BK271 0, cz_ BK271 1, cz_ BK271 2, cz_ BK271 3, (clTr HB.out hw294_0 :), (clTr HB.out hw294_1 :), (clTr HB.out hw294_2 :), (clTr HB.out hw294_3 :)⟩ (fun hHeld => ?_); refine with_tabW spec_CoarsenAt.tab11 spec_CoarsenAt.bits11 (fun HT_ HW_ => ?_)
     generalize wr.drew = w50 at HO_11 BK271 BK272 BK273 HB hx294_0 hx294_1 hx294_2 hx294_3 hHeld ⊢
     refine px_ HT_ 0 41 1 ?_
     refine px_ HT_ 2 43 5 ?_
     refine px_ HT_ 4 45 21 ?_
     refine ta_ HT_ HW_ 1 (some 42) (bv_ 10 23) hHeld ?_ (hy := by rintro w' ⟨s0, s1, s2, s3, s4, s5, s6, s7, s8, s9, s10⟩; go_simp; with_reducible rfl)
     refine ta_ HT_ HW_ 3 (some 44) (bv_ 10 31) hHeld ?_ (hy := by rintro w' ⟨s0, s1, s2, s3, s4, s5, s6, s7, s8, s9, s10⟩; go_simp; with_reducible rfl)
     refine px_ HT_ 5 46 63 ?_
     refine px_ HT_ 6 47 127 ?_
     refine ta_ HT_ HW_ 7 (some 48) (bv_ 10 255) hHeld ?_ (hy := by rintro w' ⟨s0, s1, s2, s3, s4, s5, s6, s7, s8, s9, s10⟩; go_simp; with_reducible rfl)
     refine on_ HT_ 8 (some 49) (bv_ 10 511) (fun K hK => ?_)
     refine gs_ Try.func41 #[.int .i64 a0, .agg #[.int .i64 a2_0, .int .i64 a2_1, .int .i64 a2_2], .agg #[.int .i64 ((rd_T72 l1_3 x13_1).f0.f0), .int .i64 ((rd_T72 l1_3 x13_1).f0.f1), .int .i64 ((rd_T72 l1_3 x13_1).f0.f2)]] ?_
     with_reducible refine (spec_l01Holds.calls k1 a0 a2_0 a2_1 a2_2 ((rd_T72 l1_3 x13_1).f0.f0) ((rd_T72 l1_3 x13_1).f0.f1) ((rd_T72 l1_3 x13_1).f0.f2) true _ A37.out).mono ?_
     rintro e w51 ⟨rfl, hb⟩
     refine ⟨_, rfl, ?_⟩
     replace HO_11 := rb_ HO_11 hb
     replace BK271 := bb_ BK271 hb
     replace BK272 := bb_ BK272 hb
     replace BK273 := bb_ BK273 hb
     replace HB := bt_ HB hb
     try clear hb
     refine hK.out _ _ ⟨cz_ BK272 0, cz_ BK272 1, cz_ BK272 2, cz_ BK271 0, cz_ BK271 1, cz_ BK271 2, cz_ BK271 3, (clTr HB.out hw294_0 :), (clTr HB.out hw294_1 :), (clTr HB.out hw294_2 :), (clTr HB.out hw294_3 :)⟩ (fun hHeld => ?_)
     clear hK K
     refine nm_ (some 49) ?_
     refine px_ HT_ 9 50 1023 ?_
     refine done_ (done_of HT_.out (by kernel_rfl)) ?_
     obtain ⟨hcz52_0, hcz52_1, hcz52_2, hcz52_3, hfz52_0, hfz52_1, hfz52_2, hfz52_3⟩ := ch4_ BK271
     have p296 : 0 ≤ (x13_1 : Int) := od_
     have q296 : x13_1 < (l1_3.length : Int) := od_
     obtain ⟨ad296, e296, hx296_0, hx296_1, hx296_2, hx296_3⟩ := at_T72 HR1_3.out x13_1 p296 q296
     obtain rfl : ad294 = ad296 := (by injection e296)
     replace hx296_0 := clTr HB.out hx296_0
     replace hx296_1 := clTr HB.out hx296_1
     replace hx296_2 := clTr HB.out hx296_2
     replace hx296_3 := clTr HB.out hx296_3
     replace p296 := eq_true p296
     replace q296 := eq_true q296
     try go_wp2_with (first | ((refine gc_ 42 ?_); refine ge_ 68 Try.func42 #[.int .i64 (wrap64 (x12_1 + ((rd_T72 l1_3 x13_1).f1))), .int .i64 (-1000000), .int .i64 1000000] ?_; (with_reducible refine (spec_l01In.calls (wrap64 (x12_1 + ((rd_T72 l1_3 x13_1).f1))) (-1000000) 1000000 false _ A39.out).mono ?_); rintro e w' ⟨rfl, ⟨nd, rfl⟩⟩; refine ⟨_, rfl, ?_⟩; (try (rw [drewN_self w51]; generalize hq_ : World.drewN w51 _ = w51; have n0_ : Aside0 (Kd.R k72 72 w51 w.heap.size (fun _ => True) u11 x11_1) := ⟨by rw [← hq_]; exact (ra_ HO_11.out)⟩; have n1_ := bq_ BK271 hq_; have n2_ := bq_ BK272 hq_; have n3_ := bq_ BK273 hq_; have n4_ := hq_' HB hq_; clear HO_11 BK271 BK272 BK273 HB hq_; have HO_11 := n0_; have BK271 := n1_; have BK272 := n2_; have BK273 := n3_; have HB := n4_; clear n0_ n1_ n2_ n3_ n4_)); have hnb53 := NB273_272.out; have hnc53 := NB272_273.out; obtain ⟨hcz54_0, hcz54_1, hcz54_2, hcz54_3, hfz54_0, hfz54_1, hfz54_2, hfz54_3⟩ := ch4_ BK273))
     refine bodyPost_ret (results_ct rfl _ _ gb273 34 #[.int .i64 0, .int .i64 0, .int .i64 0, .slice none 0 0] (0, 0) _ rfl (bp_ BK273).out Try.underlying34 rfl (by kernel_rfl)) rfl ?_
     exact ⟨_, es_, by first | exact Kd.R_nil _ _ _ _ _ | exact Kd.N_nil _ _ _ _ _ | exact Kd.V_nil _ _ _ _ _ | exact Kd.Q_nil _ _ _ _ _ | exact Kd.S_nil _ _ _ _ _, (bw_ HB).out⟩
    obtain ⟨y299, hy299⟩ : ∃ y_ : List (S72), y_ = (([(⟨(⟨(rd_T72 l1_3 x13_1).f0.f0, (rd_T72 l1_3 x13_1).f0.f1, (rd_T72 l1_3 x13_1).f0.f2⟩ : S31), (rd_T72 l1_3 x13_1).f1⟩ : S72)] : List (S72))) := ⟨_, rfl⟩
    replace H : (if x11_1.length + y299.length < 4398046511104 then (spec_CoarsenAt.l0 k1 a0 (x11_1 ++ y299) x12_1 (wrap64 (x13_1 + 1)) a1_0 a1_1 a1_2 l1_3 a2_0 a2_1 a2_2) else (none)) = some (r1, r2, r3, r4, r5) := by first | (rw [hy299]; with_reducible exact H) | (have H2_ := (Option.bind_some _ _).symm.trans H; rw [hy299]; with_reducible exact H2_) | (have H2_ := (Option.bind_some _ _).symm.trans H; with_reducible exact H2_) | with_reducible exact H | (rw [hy299]; exact H) | exact H
    have Ny299 := Aside0.mk hy299
    clear hy299
    by_cases c55 : x11_1.length + y299.length < 4398046511104
    ·rw [if_pos c55] at H
     have LMc55 := Aside0.mk c55
     clear c55
     obtain ⟨y302, hy302⟩ : ∃ y_ : List (S72), y_ = (x11_1 ++ y299) := ⟨_, rfl⟩
     replace H : (spec_CoarsenAt.l0 k1 a0 y302 x12_1 (wrap64 (x13_1 + 1)) a1_0 a1_1 a1_2 l1_3 a2_0 a2_1 a2_2) = some (r1, r2, r3, r4, r5) := by first | (rw [hy302]; with_reducible exact H) | (have H2_ := (Option.bind_some _ _).symm.trans H; rw [hy302]; with_reducible exact H2_) | (have H2_ := (Option.bind_some _ _).symm.trans H; with_reducible exact H2_) | with_reducible exact H | (rw [hy302]; exact H) | exact H
     have Ny302 := Aside0.mk hy302
     clear hy302
     have H' := Aside0.mk H
     clear H
     have hnb56 := NB271_272.out
     have hnc56 := NB272_271.out
     have hnb57 := NB271_273.out
     have hnc57 := NB273_271.out
     obtain ⟨hcz58_0, hcz58_1, hcz58_2, hcz58_3, hfz58_0, hfz58_1, hfz58_2, hfz58_3⟩ := ch4_ BK271
     try go_wp2
     replace HO_11 := Aside0.mk (Kd.R_drew HO_11.out)
     replace BK271 := bd_ BK271
     replace BK272 := bd_ BK272
     replace BK273 := bd_ BK273
     replace HB := be_ HB
     have p294 : 0 ≤ (x13_1 : Int) := od_
     have q294 : x13_1 < (l1_3.length : Int) := od_
     obtain ⟨ad294, e294, hx294_0, hx294_1, hx294_2, hx294_3⟩ := at_T72 HR1_3.out x13_1 p294 q294
     have hw294_3 := hx294_3
     have hw294_2 := hx294_2
     have hw294_1 := hx294_1
     have hw294_0 := hx294_0
     cases e294
     replace hx294_0 := clTr HB.out hx294_0
     replace hx294_1 := clTr HB.out hx294_1
     replace hx294_2 := clTr HB.out hx294_2
     replace hx294_3 := clTr HB.out hx294_3
     replace p294 := eq_true p294
     replace q294 := eq_true q294
     refine start_ (n := 10) (S := fun w' => w'.cell? ⟨gb272, 0, none⟩ = some (.int .i64 a2_0) ∧ w'.cell? ⟨gb272, 1, none⟩ = some (.int .i64 a2_1) ∧ w'.cell? ⟨gb272, 2, none⟩ = some (.int .i64 a2_2) ∧ w'.cell? ⟨gb271, 0, none⟩ = some (.int .i64 a1_0) ∧ w'.cell? ⟨gb271, 1, none⟩ = some (.int .i64 a1_1) ∧ w'.cell? ⟨gb271, 2, none⟩ = some (.int .i64 a1_2) ∧ w'.cell? ⟨gb271, 3, none⟩ = some (.slice (some ad294) l1_3.length c1_3) ∧ w'.cell? (ad294.add ((x13_1).toNat * 4)) = some (.int .i64 ((rd_T72 l1_3 x13_1).f0.f0)) ∧ w'.cell? ⟨(ad294.add ((x13_1).toNat * 4)).block, (ad294.add ((x13_1).toNat * 4)).off + 1, none⟩ = some (.int .i64 ((rd_T72 l1_3 x13_1).f0.f1)) ∧ w'.cell? ⟨(ad294.add ((x13_1).toNat * 4)).block, (ad294.add ((x13_1).toNat * 4)).off + 2, none⟩ = some (.int .i64 ((rd_T72 l1_3 x13_1).f0.f2)) ∧ w'.cell? ⟨(ad294.add ((x13_1).toNat * 4)).block, (ad294.add ((x13_1).toNat * 4)).off + 3, none⟩ = some (.int .i64 ((rd_T72 l1_3 x13_1).f1))) (ds := []) (bv_ 10 0) (by kernel_rfl) rfl rfl ⟨cz_ BK272 0, cz_ BK272 1, cz_ BK272 2, cz_ BK271 0, cz_ BK271 1, cz_ BK271 2, cz_ BK271 3, (clTr HB.out hw294_0 :), (clTr HB.out hw294_1 :), (clTr HB.out hw294_2 :), (clTr HB.out hw294_3 :)⟩ (fun hHeld => ?_); refine with_tabW spec_CoarsenAt.tab11 spec_CoarsenAt.bits11 (fun HT_ HW_ => ?_)
     generalize wr.drew = w59 at HO_11 BK271 BK272 BK273 HB hx294_0 hx294_1 hx294_2 hx294_3 hHeld ⊢
     refine px_ HT_ 0 41 1 ?_
     refine px_ HT_ 2 43 5 ?_
     refine px_ HT_ 4 45 21 ?_
     refine ta_ HT_ HW_ 1 (some 42) (bv_ 10 23) hHeld ?_ (hy := by rintro w' ⟨s0, s1, s2, s3, s4, s5, s6, s7, s8, s9, s10⟩; go_simp; with_reducible rfl)
     refine ta_ HT_ HW_ 3 (some 44) (bv_ 10 31) hHeld ?_ (hy := by rintro w' ⟨s0, s1, s2, s3, s4, s5, s6, s7, s8, s9, s10⟩; go_simp; with_reducible rfl)
     refine px_ HT_ 5 46 63 ?_
     refine px_ HT_ 6 47 127 ?_
     refine ta_ HT_ HW_ 7 (some 48) (bv_ 10 255) hHeld ?_ (hy := by rintro w' ⟨s0, s1, s2, s3, s4, s5, s6, s7, s8, s9, s10⟩; go_simp; with_reducible rfl)
     refine on_ HT_ 8 (some 49) (bv_ 10 511) (fun K hK => ?_)
     refine gs_ Try.func41 #[.int .i64 a0, .agg #[.int .i64 a2_0, .int .i64 a2_1, .int .i64 a2_2], .agg #[.int .i64 ((rd_T72 l1_3 x13_1).f0.f0), .int .i64 ((rd_T72 l1_3 x13_1).f0.f1), .int .i64 ((rd_T72 l1_3 x13_1).f0.f2)]] ?_
     with_reducible refine (spec_l01Holds.calls k1 a0 a2_0 a2_1 a2_2 ((rd_T72 l1_3 x13_1).f0.f0) ((rd_T72 l1_3 x13_1).f0.f1) ((rd_T72 l1_3 x13_1).f0.f2) false _ A37.out).mono ?_
     rintro e w60 ⟨rfl, hb⟩
     refine ⟨_, rfl, ?_⟩
     replace HO_11 := rb_ HO_11 hb
     replace BK271 := bb_ BK271 hb
     replace BK272 := bb_ BK272 hb
     replace BK273 := bb_ BK273 hb
     replace HB := bt_ HB hb
     try clear hb
     refine hK.out _ _ ⟨cz_ BK272 0, cz_ BK272 1, cz_ BK272 2, cz_ BK271 0, cz_ BK271 1, cz_ BK271 2, cz_ BK271 3, (clTr HB.out hw294_0 :), (clTr HB.out hw294_1 :), (clTr HB.out hw294_2 :), (clTr HB.out hw294_3 :)⟩ (fun hHeld => ?_)
     clear hK K
     refine nm_ (some 49) ?_
     refine px_ HT_ 9 50 1023 ?_
     refine done_ (done_of HT_.out (by kernel_rfl)) ?_
     obtain ⟨hcz61_0, hcz61_1, hcz61_2, hcz61_3, hfz61_0, hfz61_1, hfz61_2, hfz61_3⟩ := ch4_ BK271
     have p298 : 0 ≤ (x13_1 : Int) := od_
     have q298 : x13_1 < (l1_3.length : Int) := od_
     obtain ⟨ad298, e298, hx298_0, hx298_1, hx298_2, hx298_3⟩ := at_T72 HR1_3.out x13_1 p298 q298
     obtain rfl : ad294 = ad298 := (by injection e298)
     replace hx298_0 := clTr HB.out hx298_0
     replace hx298_1 := clTr HB.out hx298_1
     replace hx298_2 := clTr HB.out hx298_2
     replace hx298_3 := clTr HB.out hx298_3
     replace p298 := eq_true p298
     replace q298 := eq_true q298
     try go_wp2_with (first | ((refine gd_ 57 ?_); refine Kd.R_lit k72 _ 72 ?hg (N := 57) ?hd (xs := ([(⟨(⟨(rd_T72 l1_3 x13_1).f0.f0, (rd_T72 l1_3 x13_1).f0.f1, (rd_T72 l1_3 x13_1).f0.f2⟩ : S31), (rd_T72 l1_3 x13_1).f1⟩ : S72)] : List (S72))) (inner := [.int .i64 ((rd_T72 l1_3 x13_1).f0.f0), .int .i64 ((rd_T72 l1_3 x13_1).f0.f1), .int .i64 ((rd_T72 l1_3 x13_1).f0.f2), .int .i64 ((rd_T72 l1_3 x13_1).f1)]) (ok := fun _ => True) (okp := fun _ => True) ?hr ?hp (fun _ hk => hk) trivial (Below.refl _ _) (Nat.le_refl _) (by simp) ?_; (case hd => rfl); (case hg => rfl); (case hr => first | (go_simp; done) | (go_simp; rfl)); (case hp => exact (Reps.c4 (show Kd.M k72 _ _ _ (⟨(⟨(rd_T72 l1_3 x13_1).f0.f0, (rd_T72 l1_3 x13_1).f0.f1, (rd_T72 l1_3 x13_1).f0.f2⟩ : S31), (rd_T72 l1_3 x13_1).f1⟩ : S72) [.int .i64 ((rd_T72 l1_3 x13_1).f0.f0), .int .i64 ((rd_T72 l1_3 x13_1).f0.f1), .int .i64 ((rd_T72 l1_3 x13_1).f0.f2), .int .i64 ((rd_T72 l1_3 x13_1).f1)] from (k72_mkM _ _ _ (⟨(⟨(rd_T72 l1_3 x13_1).f0.f0, (rd_T72 l1_3 x13_1).f0.f1, (rd_T72 l1_3 x13_1).f0.f2⟩ : S31), (rd_T72 l1_3 x13_1).f1⟩ : S72) )) (Reps.none _ _))); intro v300 w62 ho63 hb hg_ hnew_; clear hg_ hnew_; (first | rw [← Ny299.out] at ho63 | (simp only [Int.reduceToNat] at ho63; rw [← Ny299.out] at ho63)); have HO301 := Aside0.mk (Kd.R_lower (Kd.R_new' ho63 (Kd.R_lt (ra_ HO_11.out))) (below_size (bw_ HB).out)); replace HO_11 := Aside0.mk (Kd.R_elder' (ra_ HO_11.out) (Kd.R_base ho63) hb); replace BK271 := bb_ BK271 hb; replace BK272 := bb_ BK272 hb; replace BK273 := bb_ BK273 hb; replace HB := bt_ HB hb; clear hb ho63; obtain ⟨Ao65, co65, eo65⟩ := Kd.R_slice HO301.out; subst eo65) | ((with_reducible refine gate_builtin (b := .append) (xs := #[.tmp 51, .tmp 57]) rfl ?_); at_builtin; refine Kd.R_append_rows k72 (w0 := w) w.heap.size rfl (.tmp 51) (.tmp 57) 32 72 (.agg #[(.int .i64 0), (.int .i64 0), (.int .i64 0), (.int .i64 0)]) 32 rfl Try.underlying32 info72 rfl (by decide) (by omega) u11 x11_1 y299 _ _ _ (fun k_ => some k_ ≠ (.slice Ao65 y299.length co65 : Value).ownBlock) (fun _ => False) rfl rfl ?aO ?aR (fun _ _ h => h) (fun _ h => h.elim) ?aF ?aB ?aS ?aL ?_; (case aR => repeat (first | exact (Kd.R_reads' HO301.out).2.2 | (with_reducible refine Kd.C_alloc ?_ _) | (with_reducible refine Kd.C_drewN ?_ _) | (with_reducible refine Kd.C_drew ?_))); (case aB => exact (bw_ HB).out); (case aF => exact (fun k_ hk => Kd.fresh' (Kd.R_lt (ra_ HO301.out)) k_ hk)); (case aO => exact (by (with_reducible repeat (first | apply Kd.R_alloc | apply Kd.R_drewN | apply Kd.R_drew)); exact Kd.R_mono HO_11.out (fun _ hk => hk.2))); (case aS => exact (below_size (bw_ HB).out)); (case aL => have := LMc55.out; omega); intro v303 w64 ho hb hg hat; rw [← Ny302.out] at ho; have n0_ := Aside0.mk (blk_grown (g := gb271) (o := .cells #[.int .i64 a1_0, .int .i64 a1_1, .int .i64 a1_2, .slice (some ad294) l1_3.length c1_3] 34 (0, 0)) (bl_ BK271).out hg (Kd.R_ne HO_11.out BK271.out (by decide))); have n1_ := Aside0.mk (blk_grown (g := gb272) (o := .cells #[.int .i64 a2_0, .int .i64 a2_1, .int .i64 a2_2] 31 (0, 0)) (bl_ BK272).out hg (Kd.R_ne HO_11.out BK272.out (by decide))); have n2_ := Aside0.mk (blk_grown (g := gb273) (o := .cells #[.int .i64 x274000_1, .int .i64 x274001_1, .int .i64 x274002_1, .slice none 0 0] 34 (0, 0)) (bl_ BK273).out hg (Kd.R_ne HO_11.out BK273.out (by decide))); have n3_ := Aside0.mk (Kd.R_after (ok := (fun _ => True)) (ra_ HO301.out) hg hat); have n4_ := Aside0.mk (hb); have n5_ := Aside0.mk (ho); clear BK271; clear BK272; clear BK273; clear HO301; clear HB; clear HO_11; have BK271 := n0_; have BK272 := n1_; have BK273 := n2_; have HO301 := n3_; have HB := n4_; have HO304 := n5_; clear n0_ n1_ n2_ n3_ n4_ n5_; clear ho hb hg hat))
     go_roundg k1
     case measure => have := HK1.out; omega
     case rel => exact ⟨(y302), (x12_1), (wrap64 (x13_1 + 1)), (x274000_1), (x274001_1), (x274002_1), en_, en_, H', ⟨by have := HK1.out; omega⟩, ⟨by (with_reducible repeat (first | apply Kd.R_alloc | apply Kd.R_drewN | apply Kd.R_drew)); exact Kd.R_mono HO304.out (fun _ hk => trivial)⟩, bl_ BK271, bl_ BK272, bl_ BK273, bw_ HB⟩
    rw [if_neg c55] at H
    exact absurd H (by simp)
   obtain ⟨y280, hy280⟩ : ∃ y_ : List (S72), y_ = (([(⟨(⟨a2_0, a2_1, a2_2⟩ : S31), x12_1⟩ : S72)] : List (S72))) := ⟨_, rfl⟩
   replace H : (if x11_1.length + y280.length < 4398046511104 then ((spec_l08Told.f k1 a0 a1_0 a1_1 a1_2 (x11_1 ++ y280)).bind fun bt286 => (some (bt286.1, bt286.2.1, bt286.2.2.1, bt286.2.2.2.1, bt286.2.2.2.2))) else (none)) = some (r1, r2, r3, r4, r5) := by first | (rw [hy280]; with_reducible exact H) | (have H2_ := (Option.bind_some _ _).symm.trans H; rw [hy280]; with_reducible exact H2_) | (have H2_ := (Option.bind_some _ _).symm.trans H; with_reducible exact H2_) | with_reducible exact H | (rw [hy280]; exact H) | exact H
   have Ny280 := Aside0.mk hy280
   clear hy280
   by_cases c66 : x11_1.length + y280.length < 4398046511104
   ·rw [if_pos c66] at H
    have LMc66 := Aside0.mk c66
    clear c66
    obtain ⟨y283, hy283⟩ : ∃ y_ : List (S72), y_ = (x11_1 ++ y280) := ⟨_, rfl⟩
    replace H : ((spec_l08Told.f k1 a0 a1_0 a1_1 a1_2 y283).bind fun bt286 => (some (bt286.1, bt286.2.1, bt286.2.2.1, bt286.2.2.2.1, bt286.2.2.2.2))) = some (r1, r2, r3, r4, r5) := by first | (rw [hy283]; with_reducible exact H) | (have H2_ := (Option.bind_some _ _).symm.trans H; rw [hy283]; with_reducible exact H2_) | (have H2_ := (Option.bind_some _ _).symm.trans H; with_reducible exact H2_) | with_reducible exact H | (rw [hy283]; exact H) | exact H
    have Ny283 := Aside0.mk hy283
    clear hy283
    replace H := oc_ H
    obtain ⟨⟨t286, t287, t288, t289, t292⟩, A67, H⟩ := H
    simp only [Option.some.injEq, Prod.mk.injEq] at H
    obtain ⟨rfl, rfl, rfl, rfl, rfl⟩ := H
    have hnb68 := NB271_272.out
    have hnc68 := NB272_271.out
    have hnb69 := NB271_273.out
    have hnc69 := NB273_271.out
    obtain ⟨hcz70_0, hcz70_1, hcz70_2, hcz70_3, hfz70_0, hfz70_1, hfz70_2, hfz70_3⟩ := ch4_ BK271
    obtain ⟨Ao71, co71, eo71⟩ := Kd.R_slice HO_11.out
    subst eo71
    try go_wp2
    replace HO_11 := Aside0.mk (Kd.R_drew HO_11.out)
    replace BK271 := bd_ BK271
    replace BK272 := bd_ BK272
    replace BK273 := bd_ BK273
    replace HB := be_ HB
    refine start_ (n := 16) (S := fun w' => w'.cell? ⟨gb271, 0, none⟩ = some (.int .i64 a1_0) ∧ w'.cell? ⟨gb271, 1, none⟩ = some (.int .i64 a1_1) ∧ w'.cell? ⟨gb271, 2, none⟩ = some (.int .i64 a1_2) ∧ w'.cell? ⟨gb271, 3, none⟩ = some (.slice A1_3 l1_3.length c1_3) ∧ w'.cell? ⟨gb272, 0, none⟩ = some (.int .i64 a2_0) ∧ w'.cell? ⟨gb272, 1, none⟩ = some (.int .i64 a2_1) ∧ w'.cell? ⟨gb272, 2, none⟩ = some (.int .i64 a2_2)) (ds := []) (bv_ 16 0) (by kernel_rfl) rfl rfl ⟨cz_ BK271 0, cz_ BK271 1, cz_ BK271 2, cz_ BK271 3, cz_ BK272 0, cz_ BK272 1, cz_ BK272 2⟩ (fun hHeld => ?_); refine with_tabW spec_CoarsenAt.tab16 spec_CoarsenAt.bits16 (fun HT_ HW_ => ?_)
    generalize wr.drew = w72 at HO_11 BK271 BK272 BK273 HB hHeld ⊢
    refine px_ HT_ 0 72 1 ?_
    refine px_ HT_ 1 73 3 ?_
    refine px_ HT_ 3 75 11 ?_
    refine px_ HT_ 5 77 43 ?_
    refine ta_ HT_ HW_ 2 (some 74) (bv_ 16 47) hHeld ?_ (hy := by rintro w' ⟨s0, s1, s2, s3, s4, s5, s6⟩; go_simp; with_reducible rfl)
    refine ta_ HT_ HW_ 4 (some 76) (bv_ 16 63) hHeld ?_ (hy := by rintro w' ⟨s0, s1, s2, s3, s4, s5, s6⟩; go_simp; with_reducible rfl)
    refine px_ HT_ 6 78 127 ?_
    refine join_ (σ := Value × Value × Value × Nat) 2 (bv_ 16 16383) (fun s_ => [(79, s_.1), (80, s_.2.1), (81, .tuple #[.agg #[.int .i64 t286, .int .i64 t287, .int .i64 t288, s_.2.2.1], .int .i64 t292]), (14, .pointer (some ⟨s_.2.2.2, 0, none⟩)), (71, .tuple #[.agg #[.int .i64 t286, .int .i64 t287, .int .i64 t288, s_.2.2.1], .int .i64 t292]), (82, .agg #[.int .i64 t286, .int .i64 t287, .int .i64 t288, s_.2.2.1]), (83, .int .i64 t292)]) (fun s_ w' => (w'.cell? ⟨gb271, 0, none⟩ = some (.int .i64 a1_0) ∧ w'.cell? ⟨gb271, 1, none⟩ = some (.int .i64 a1_1) ∧ w'.cell? ⟨gb271, 2, none⟩ = some (.int .i64 a1_2) ∧ w'.cell? ⟨gb271, 3, none⟩ = some (.slice A1_3 l1_3.length c1_3) ∧ w'.cell? ⟨gb272, 0, none⟩ = some (.int .i64 a2_0) ∧ w'.cell? ⟨gb272, 1, none⟩ = some (.int .i64 a2_1) ∧ w'.cell? ⟨gb272, 2, none⟩ = some (.int .i64 a2_2)) ∧ (Kd.R k72 72 w' w.heap.size (fun k_ => some k_ ≠ (s_.2.1 : Value).ownBlock ∧ some k_ ≠ (s_.2.2.1 : Value).ownBlock) s_.1 y280) ∧ (Kd.R k72 72 w' w.heap.size (fun k_ => some k_ ≠ (s_.1 : Value).ownBlock ∧ some k_ ≠ (s_.2.2.1 : Value).ownBlock) s_.2.1 y283) ∧ (Kd.R k72 72 w' w.heap.size (fun k_ => some k_ ≠ (s_.1 : Value).ownBlock ∧ some k_ ≠ (s_.2.1 : Value).ownBlock) s_.2.2.1 t289) ∧ (w'.heap[gb271]? = some (.cells #[.int .i64 a1_0, .int .i64 a1_1, .int .i64 a1_2, .slice A1_3 l1_3.length c1_3] 34 (0, 0))) ∧ (w'.heap[gb272]? = some (.cells #[.int .i64 a2_0, .int .i64 a2_1, .int .i64 a2_2] 31 (0, 0))) ∧ (w'.heap[gb273]? = some (.cells #[.int .i64 x274000_1, .int .i64 x274001_1, .int .i64 x274002_1, .slice none 0 0] 34 (0, 0))) ∧ (w'.heap[s_.2.2.2]? = some (.cells #[.int .i64 0, .int .i64 0, .int .i64 0, .slice none 0 0] 34 (0, 0))) ∧ (w.heap.size ≤ s_.2.2.2) ∧ (w.heap.size ≤ s_.2.2.2) ∧ (gb271 ≠ s_.2.2.2) ∧ (s_.2.2.2 ≠ gb271) ∧ (gb272 ≠ s_.2.2.2) ∧ (s_.2.2.2 ≠ gb272) ∧ (gb273 ≠ s_.2.2.2) ∧ (s_.2.2.2 ≠ gb273) ∧ (Below w.heap.size w w')) ?_ ?_
    rotate_left
    ·intro hCont
     refine tw_ HT_ 7 13 (some 79) (some 14) (bv_ 16 255) (bv_ 16 8319) (fun K hK => ?_) (fun K hK => ?_)
     ·skip
      refine Kd.R_lit_step k72 _ 72 ?hg (N := 79) ?hd (xs := ([(⟨(⟨a2_0, a2_1, a2_2⟩ : S31), x12_1⟩ : S72)] : List (S72))) (inner := [.int .i64 a2_0, .int .i64 a2_1, .int .i64 a2_2, .int .i64 x12_1]) (ok := fun _ => True) (okp := fun _ => True) ?hr ?hp (fun _ hk => hk) trivial (Below.refl _ _) (Nat.le_refl _) (by simp) ?_; (case hd => rfl); (case hg => rfl); (case hr => first | (go_simp; done) | (go_simp; rfl)); (case hp => exact (Reps.c4 (show Kd.M k72 _ _ _ (⟨(⟨a2_0, a2_1, a2_2⟩ : S31), x12_1⟩ : S72) [.int .i64 a2_0, .int .i64 a2_1, .int .i64 a2_2, .int .i64 x12_1] from (k72_mkM _ _ _ (⟨(⟨a2_0, a2_1, a2_2⟩ : S31), x12_1⟩ : S72) )) (Reps.none _ _)))
      intro v281 w73 ho74 hb hg_ hnew_
      clear hg_ hnew_
      (first | rw [← Ny280.out] at ho74 | (simp only [Int.reduceToNat] at ho74; rw [← Ny280.out] at ho74))
      have HO282 := Aside0.mk (Kd.R_lower (Kd.R_new' ho74 (Kd.R_lt (ra_ HO_11.out))) (below_size (bw_ HB).out))
      replace HO_11 := Aside0.mk (Kd.R_elder' (ra_ HO_11.out) (Kd.R_base ho74) hb)
      replace BK271 := bb_ BK271 hb
      replace BK272 := bb_ BK272 hb
      replace BK273 := bb_ BK273 hb
      replace HB := bt_ HB hb
      clear hb ho74
      obtain ⟨Ao76, co76, eo76⟩ := Kd.R_slice HO282.out
      (first | subst eo76 | (injection eo76 with f1_ f2_ f3_; have f4_ := f1_.symm; have f5_ := f3_.symm; clear f1_ f2_ f3_; subst f4_; subst f5_))
      refine hK.out _ _ ⟨cz_ BK271 0, cz_ BK271 1, cz_ BK271 2, cz_ BK271 3, cz_ BK272 0, cz_ BK272 1, cz_ BK272 2⟩ (fun hHeld => ?_)
      clear hK K
      refine nm_ (some 79) ?_
      refine tw_ HT_ 8 13 (some 80) (some 14) (bv_ 16 511) (bv_ 16 8447) (fun K hK => ?_) (fun K hK => ?_)
      ·skip
       refine Kd.R_append_rows_step k72 (w0 := w) w.heap.size (by rfl) (.tmp 75) (.tmp 79) 32 72 (.agg #[(.int .i64 0), (.int .i64 0), (.int .i64 0), (.int .i64 0)]) 32 rfl Try.underlying32 info72 rfl (by decide) (by omega) (.slice Ao71 x11_1.length co71) x11_1 y280 _ _ _ (fun k_ => some k_ ≠ (.slice Ao76 y280.length co76 : Value).ownBlock) (fun _ => False) rfl rfl ?aO ?aR (fun _ _ h => h) (fun _ h => h.elim) ?aF ?aB ?aS ?aL ?_
       (case aR => repeat (first | exact (Kd.R_reads' HO282.out).2.2 | (with_reducible refine Kd.C_alloc ?_ _) | (with_reducible refine Kd.C_drewN ?_ _) | (with_reducible refine Kd.C_drew ?_)))
       (case aB => exact (bw_ HB).out)
       (case aF => exact (fun k_ hk => Kd.fresh' (Kd.R_lt (ra_ HO282.out)) k_ hk))
       (case aO => exact (by (with_reducible repeat (first | apply Kd.R_alloc | apply Kd.R_drewN | apply Kd.R_drew)); exact Kd.R_mono HO_11.out (fun _ hk => hk.2)))
       (case aS => exact (below_size (bw_ HB).out))
       (case aL => have := LMc66.out; omega)
       intro v284 w75 ho hb hg hat
       rw [← Ny283.out] at ho
       have n0_ := Aside0.mk (blk_grown (g := gb271) (o := .cells #[.int .i64 a1_0, .int .i64 a1_1, .int .i64 a1_2, .slice A1_3 l1_3.length c1_3] 34 (0, 0)) (bl_ BK271).out hg (Kd.R_ne HO_11.out BK271.out (by decide)))
       have n1_ := Aside0.mk (blk_grown (g := gb272) (o := .cells #[.int .i64 a2_0, .int .i64 a2_1, .int .i64 a2_2] 31 (0, 0)) (bl_ BK272).out hg (Kd.R_ne HO_11.out BK272.out (by decide)))
       have n2_ := Aside0.mk (blk_grown (g := gb273) (o := .cells #[.int .i64 x274000_1, .int .i64 x274001_1, .int .i64 x274002_1, .slice none 0 0] 34 (0, 0)) (bl_ BK273).out hg (Kd.R_ne HO_11.out BK273.out (by decide)))
       have n3_ := Aside0.mk (Kd.R_after (ok := (fun _ => True)) (ra_ HO282.out) hg hat)
       have n4_ := Aside0.mk (hb)
       have n5_ := Aside0.mk (ho)
       clear BK271
       clear BK272
       clear BK273
       clear HO282
       clear HB
       clear HO_11
       have BK271 := n0_
       have BK272 := n1_
       have BK273 := n2_
       have HO282 := n3_
       have HB := n4_
       have HO285 := n5_
       clear n0_ n1_ n2_ n3_ n4_ n5_
       clear ho hb hg hat
       obtain ⟨Ao77, co77, eo77⟩ := Kd.R_slice HO285.out
       (first | subst eo77 | (injection eo77 with f1_ f2_ f3_; have f4_ := f1_.symm; have f5_ := f3_.symm; clear f1_ f2_ f3_; subst f4_; subst f5_))
       refine hK.out _ _ ⟨cz_ BK271 0, cz_ BK271 1, cz_ BK271 2, cz_ BK271 3, cz_ BK272 0, cz_ BK272 1, cz_ BK272 2⟩ (fun hHeld => ?_)
       clear hK K
       refine nm_ (some 80) ?_
       refine tw_ HT_ 9 13 (some 81) (some 14) (bv_ 16 1023) (bv_ 16 8703) (fun K hK => ?_) (fun K hK => ?_)
       ·skip
        refine gs_ Try.func43 #[.int .i64 a0, .agg #[.int .i64 a1_0, .int .i64 a1_1, .int .i64 a1_2], .slice Ao77 y283.length co77] ?_
        with_reducible refine (spec_l08Told.calls k1 a0 a1_0 a1_1 a1_2 _ _ y283 t286 t287 t288 t289 t292 _ ?side1 ?side2 A67.out).mono ?_
        (case side1 => exact ca_ (Kd.R_reads' HO285.out).2.2)
        (case side2 => exact (Kd.R_reads' HO285.out).2.1)
        rintro e w78 ⟨v290, rfl, ho0, hb⟩
        refine ⟨_, rfl, ?_⟩
        have HO291 := Aside0.mk (Kd.R_lower (Kd.R_new' (Kd.R_new' ho0 (Kd.R_lt (ra_ HO282.out))) (Kd.R_lt (ra_ HO285.out))) (below_size (bw_ HB).out))
        replace HO282 := Aside0.mk (Kd.R_elder' (ra_ HO282.out) (Kd.R_base ho0) hb)
        replace HO285 := Aside0.mk (Kd.R_elder' (ra_ HO285.out) (Kd.R_base ho0) hb)
        replace BK271 := bb_ BK271 hb
        replace BK272 := bb_ BK272 hb
        replace BK273 := bb_ BK273 hb
        replace HB := bt_ HB hb
        try clear hb
        (try clear ho0)
        refine hK.out _ _ ⟨cz_ BK271 0, cz_ BK271 1, cz_ BK271 2, cz_ BK271 3, cz_ BK272 0, cz_ BK272 1, cz_ BK272 2⟩ (fun hHeld => ?_)
        clear hK K
        refine nm_ (some 81) ?_
        refine px_ HT_ 10 71 2047 ?_
        refine px_ HT_ 11 82 4095 ?_
        refine px_ HT_ 12 83 8191 ?_
        refine on_ HT_ 13 (some 14) (bv_ 16 16383) (fun K hK => ?_)
        refine bz_ 14 #[.int .i64 0, .int .i64 0, .int .i64 0, .slice none 0 0] 34 ?_
        intro gb293 hg w79 BK293 hb
        have GW293 := bs_ HB hg
        have NB271_293 := bm_ BK271 hg
        have NB293_271 := bn_ BK271 hg
        have NB272_293 := bm_ BK272 hg
        have NB293_272 := bn_ BK272 hg
        have NB273_293 := bm_ BK273 hg
        have NB293_273 := bn_ BK273 hg
        replace HO282 := rb_ HO282 hb
        replace HO285 := rb_ HO285 hb
        replace HO291 := rb_ HO291 hb
        replace BK271 := bb_ BK271 hb
        replace BK272 := bb_ BK272 hb
        replace BK273 := bb_ BK273 hb
        replace HB := bt_ HB hb
        clear hb hg
        refine hK.out _ _ ⟨cz_ BK271 0, cz_ BK271 1, cz_ BK271 2, cz_ BK271 3, cz_ BK272 0, cz_ BK272 1, cz_ BK272 2⟩ (fun hHeld => ?_)
        clear hK K
        refine nm_ (some 14) ?_
        exact norm_ (by simp only [putAll, Act.put, lstS, lstZ, lstC]) (hCont (.slice Ao76 y280.length co76, .slice Ao77 y283.length co77, v290, gb293) _ ⟨hHeld, (by (with_reducible repeat (first | apply Kd.R_alloc | apply Kd.R_drewN | apply Kd.R_drew)); exact Kd.R_mono HO282.out (fun _ hk => ⟨hk.1.2, hk.2⟩)), (ra_ HO285.out), (by (with_reducible repeat (first | apply Kd.R_alloc | apply Kd.R_drewN | apply Kd.R_drew)); exact Kd.R_mono HO291.out (fun _ hk => ⟨hk.1.2, hk.2⟩)), (bl_ BK271).out, (bl_ BK272).out, (bl_ BK273).out, (bl_ BK293).out, GW293.out, GW293.out, NB271_293.out, NB293_271.out, NB272_293.out, NB293_272.out, NB273_293.out, NB293_273.out, (bw_ HB).out⟩)
       skip
       refine bz_ 14 #[.int .i64 0, .int .i64 0, .int .i64 0, .slice none 0 0] 34 ?_
       intro gb293 hg w77 BK293 hb
       have GW293 := bs_ HB hg
       have NB271_293 := bm_ BK271 hg
       have NB293_271 := bn_ BK271 hg
       have NB272_293 := bm_ BK272 hg
       have NB293_272 := bn_ BK272 hg
       have NB273_293 := bm_ BK273 hg
       have NB293_273 := bn_ BK273 hg
       replace HO282 := rb_ HO282 hb
       replace HO285 := rb_ HO285 hb
       replace BK271 := bb_ BK271 hb
       replace BK272 := bb_ BK272 hb
       replace BK273 := bb_ BK273 hb
       replace HB := bt_ HB hb
       clear hb hg
       obtain ⟨Ao78, co78, eo78⟩ := Kd.R_slice HO285.out
       (first | subst eo78 | (injection eo78 with f1_ f2_ f3_; have f4_ := f1_.symm; have f5_ := f3_.symm; clear f1_ f2_ f3_; subst f4_; subst f5_))
       refine hK.out _ _ ⟨cz_ BK271 0, cz_ BK271 1, cz_ BK271 2, cz_ BK271 3, cz_ BK272 0, cz_ BK272 1, cz_ BK272 2⟩ (fun hHeld => ?_)
       clear hK K
       refine nm_ (some 14) ?_
       refine on_ HT_ 9 (some 81) (bv_ 16 9215) (fun K hK => ?_)
       refine gs_ Try.func43 #[.int .i64 a0, .agg #[.int .i64 a1_0, .int .i64 a1_1, .int .i64 a1_2], .slice Ao78 y283.length co78] ?_
       with_reducible refine (spec_l08Told.calls k1 a0 a1_0 a1_1 a1_2 _ _ y283 t286 t287 t288 t289 t292 _ ?side1 ?side2 A67.out).mono ?_
       (case side1 => exact ca_ (Kd.R_reads' HO285.out).2.2)
       (case side2 => exact (Kd.R_reads' HO285.out).2.1)
       rintro e w79 ⟨v290, rfl, ho0, hb⟩
       refine ⟨_, rfl, ?_⟩
       have HO291 := Aside0.mk (Kd.R_lower (Kd.R_new' (Kd.R_new' ho0 (Kd.R_lt (ra_ HO282.out))) (Kd.R_lt (ra_ HO285.out))) (below_size (bw_ HB).out))
       replace HO282 := Aside0.mk (Kd.R_elder' (ra_ HO282.out) (Kd.R_base ho0) hb)
       replace HO285 := Aside0.mk (Kd.R_elder' (ra_ HO285.out) (Kd.R_base ho0) hb)
       replace BK271 := bb_ BK271 hb
       replace BK272 := bb_ BK272 hb
       replace BK273 := bb_ BK273 hb
       replace BK293 := bb_ BK293 hb
       replace HB := bt_ HB hb
       try clear hb
       (try clear ho0)
       refine hK.out _ _ ⟨cz_ BK271 0, cz_ BK271 1, cz_ BK271 2, cz_ BK271 3, cz_ BK272 0, cz_ BK272 1, cz_ BK272 2⟩ (fun hHeld => ?_)
       clear hK K
       refine nm_ (some 81) ?_
       refine px_ HT_ 10 71 10239 ?_
       refine px_ HT_ 11 82 12287 ?_
       refine px_ HT_ 12 83 16383 ?_
       exact norm_ (by simp only [putAll, Act.put, lstS, lstZ, lstC]) (hCont (.slice Ao76 y280.length co76, .slice Ao78 y283.length co78, v290, gb293) _ ⟨hHeld, (by (with_reducible repeat (first | apply Kd.R_alloc | apply Kd.R_drewN | apply Kd.R_drew)); exact Kd.R_mono HO282.out (fun _ hk => ⟨hk.1.2, hk.2⟩)), (ra_ HO285.out), (by (with_reducible repeat (first | apply Kd.R_alloc | apply Kd.R_drewN | apply Kd.R_drew)); exact Kd.R_mono HO291.out (fun _ hk => ⟨hk.1.2, hk.2⟩)), (bl_ BK271).out, (bl_ BK272).out, (bl_ BK273).out, (bl_ BK293).out, GW293.out, GW293.out, NB271_293.out, NB293_271.out, NB272_293.out, NB293_272.out, NB273_293.out, NB293_273.out, (bw_ HB).out⟩)
      skip
      refine bz_ 14 #[.int .i64 0, .int .i64 0, .int .i64 0, .slice none 0 0] 34 ?_
      intro gb293 hg w75 BK293 hb
      have GW293 := bs_ HB hg
      have NB271_293 := bm_ BK271 hg
      have NB293_271 := bn_ BK271 hg
      have NB272_293 := bm_ BK272 hg
      have NB293_272 := bn_ BK272 hg
      have NB273_293 := bm_ BK273 hg
      have NB293_273 := bn_ BK273 hg
      replace HO_11 := rb_ HO_11 hb
      replace HO282 := rb_ HO282 hb
      replace BK271 := bb_ BK271 hb
      replace BK272 := bb_ BK272 hb
      replace BK273 := bb_ BK273 hb
      replace HB := bt_ HB hb
      clear hb hg
      obtain ⟨Ao77, co77, eo77⟩ := Kd.R_slice HO282.out
      (first | subst eo77 | (injection eo77 with f1_ f2_ f3_; have f4_ := f1_.symm; have f5_ := f3_.symm; clear f1_ f2_ f3_; subst f4_; subst f5_))
      refine hK.out _ _ ⟨cz_ BK271 0, cz_ BK271 1, cz_ BK271 2, cz_ BK271 3, cz_ BK272 0, cz_ BK272 1, cz_ BK272 2⟩ (fun hHeld => ?_)
      clear hK K
      refine nm_ (some 14) ?_
      refine on_ HT_ 8 (some 80) (bv_ 16 8703) (fun K hK => ?_)
      refine Kd.R_append_rows_step k72 (w0 := w) w.heap.size (by rfl) (.tmp 75) (.tmp 79) 32 72 (.agg #[(.int .i64 0), (.int .i64 0), (.int .i64 0), (.int .i64 0)]) 32 rfl Try.underlying32 info72 rfl (by decide) (by omega) (.slice Ao71 x11_1.length co71) x11_1 y280 _ _ _ (fun k_ => some k_ ≠ (.slice Ao77 y280.length co77 : Value).ownBlock) (fun _ => False) rfl rfl ?aO ?aR (fun _ _ h => h) (fun _ h => h.elim) ?aF ?aB ?aS ?aL ?_
      (case aR => repeat (first | exact (Kd.R_reads' HO282.out).2.2 | (with_reducible refine Kd.C_alloc ?_ _) | (with_reducible refine Kd.C_drewN ?_ _) | (with_reducible refine Kd.C_drew ?_)))
      (case aB => exact (bw_ HB).out)
      (case aF => exact (fun k_ hk => Kd.fresh' (Kd.R_lt (ra_ HO282.out)) k_ hk))
      (case aO => exact (by (with_reducible repeat (first | apply Kd.R_alloc | apply Kd.R_drewN | apply Kd.R_drew)); exact Kd.R_mono HO_11.out (fun _ hk => hk.2)))
      (case aS => exact (below_size (bw_ HB).out))
      (case aL => have := LMc66.out; omega)
      intro v284 w76 ho hb hg hat
      rw [← Ny283.out] at ho
      have n0_ := Aside0.mk (blk_grown (g := gb271) (o := .cells #[.int .i64 a1_0, .int .i64 a1_1, .int .i64 a1_2, .slice A1_3 l1_3.length c1_3] 34 (0, 0)) (bl_ BK271).out hg (Kd.R_ne HO_11.out BK271.out (by decide)))
      have n1_ := Aside0.mk (blk_grown (g := gb272) (o := .cells #[.int .i64 a2_0, .int .i64 a2_1, .int .i64 a2_2] 31 (0, 0)) (bl_ BK272).out hg (Kd.R_ne HO_11.out BK272.out (by decide)))
      have n2_ := Aside0.mk (blk_grown (g := gb273) (o := .cells #[.int .i64 x274000_1, .int .i64 x274001_1, .int .i64 x274002_1, .slice none 0 0] 34 (0, 0)) (bl_ BK273).out hg (Kd.R_ne HO_11.out BK273.out (by decide)))
      have n3_ := Aside0.mk (Kd.R_after (ok := (fun _ => True)) (ra_ HO282.out) hg hat)
      have n4_ := Aside0.mk (blk_grown (g := gb293) (o := .cells #[.int .i64 0, .int .i64 0, .int .i64 0, .slice none 0 0] 34 (0, 0)) (bl_ BK293).out hg (Kd.R_ne HO_11.out BK293.out (by decide)))
      have n5_ := Aside0.mk (hb)
      have n6_ := Aside0.mk (ho)
      clear BK271
      clear BK272
      clear BK273
      clear HO282
      clear BK293
      clear HB
      clear HO_11
      have BK271 := n0_
      have BK272 := n1_
      have BK273 := n2_
      have HO282 := n3_
      have BK293 := n4_
      have HB := n5_
      have HO285 := n6_
      clear n0_ n1_ n2_ n3_ n4_ n5_ n6_
      clear ho hb hg hat
      obtain ⟨Ao78, co78, eo78⟩ := Kd.R_slice HO285.out
      (first | subst eo78 | (injection eo78 with f1_ f2_ f3_; have f4_ := f1_.symm; have f5_ := f3_.symm; clear f1_ f2_ f3_; subst f4_; subst f5_))
      refine hK.out _ _ ⟨cz_ BK271 0, cz_ BK271 1, cz_ BK271 2, cz_ BK271 3, cz_ BK272 0, cz_ BK272 1, cz_ BK272 2⟩ (fun hHeld => ?_)
      clear hK K
      refine nm_ (some 80) ?_
      refine on_ HT_ 9 (some 81) (bv_ 16 9215) (fun K hK => ?_)
      refine gs_ Try.func43 #[.int .i64 a0, .agg #[.int .i64 a1_0, .int .i64 a1_1, .int .i64 a1_2], .slice Ao78 y283.length co78] ?_
      with_reducible refine (spec_l08Told.calls k1 a0 a1_0 a1_1 a1_2 _ _ y283 t286 t287 t288 t289 t292 _ ?side1 ?side2 A67.out).mono ?_
      (case side1 => exact ca_ (Kd.R_reads' HO285.out).2.2)
      (case side2 => exact (Kd.R_reads' HO285.out).2.1)
      rintro e w79 ⟨v290, rfl, ho0, hb⟩
      refine ⟨_, rfl, ?_⟩
      have HO291 := Aside0.mk (Kd.R_lower (Kd.R_new' (Kd.R_new' ho0 (Kd.R_lt (ra_ HO282.out))) (Kd.R_lt (ra_ HO285.out))) (below_size (bw_ HB).out))
      replace HO282 := Aside0.mk (Kd.R_elder' (ra_ HO282.out) (Kd.R_base ho0) hb)
      replace HO285 := Aside0.mk (Kd.R_elder' (ra_ HO285.out) (Kd.R_base ho0) hb)
      replace BK271 := bb_ BK271 hb
      replace BK272 := bb_ BK272 hb
      replace BK273 := bb_ BK273 hb
      replace BK293 := bb_ BK293 hb
      replace HB := bt_ HB hb
      try clear hb
      (try clear ho0)
      refine hK.out _ _ ⟨cz_ BK271 0, cz_ BK271 1, cz_ BK271 2, cz_ BK271 3, cz_ BK272 0, cz_ BK272 1, cz_ BK272 2⟩ (fun hHeld => ?_)
      clear hK K
      refine nm_ (some 81) ?_
      refine px_ HT_ 10 71 10239 ?_
      refine px_ HT_ 11 82 12287 ?_
      refine px_ HT_ 12 83 16383 ?_
      exact norm_ (by simp only [putAll, Act.put, lstS, lstZ, lstC]) (hCont (.slice Ao77 y280.length co77, .slice Ao78 y283.length co78, v290, gb293) _ ⟨hHeld, (by (with_reducible repeat (first | apply Kd.R_alloc | apply Kd.R_drewN | apply Kd.R_drew)); exact Kd.R_mono HO282.out (fun _ hk => ⟨hk.1.2, hk.2⟩)), (ra_ HO285.out), (by (with_reducible repeat (first | apply Kd.R_alloc | apply Kd.R_drewN | apply Kd.R_drew)); exact Kd.R_mono HO291.out (fun _ hk => ⟨hk.1.2, hk.2⟩)), (bl_ BK271).out, (bl_ BK272).out, (bl_ BK273).out, (bl_ BK293).out, GW293.out, GW293.out, NB271_293.out, NB293_271.out, NB272_293.out, NB293_272.out, NB273_293.out, NB293_273.out, (bw_ HB).out⟩)
     skip
     refine bz_ 14 #[.int .i64 0, .int .i64 0, .int .i64 0, .slice none 0 0] 34 ?_
     intro gb293 hg w73 BK293 hb
     have GW293 := bs_ HB hg
     have NB271_293 := bm_ BK271 hg
     have NB293_271 := bn_ BK271 hg
     have NB272_293 := bm_ BK272 hg
     have NB293_272 := bn_ BK272 hg
     have NB273_293 := bm_ BK273 hg
     have NB293_273 := bn_ BK273 hg
     replace HO_11 := rb_ HO_11 hb
     replace BK271 := bb_ BK271 hb
     replace BK272 := bb_ BK272 hb
     replace BK273 := bb_ BK273 hb
     replace HB := bt_ HB hb
     clear hb hg
     refine hK.out _ _ ⟨cz_ BK271 0, cz_ BK271 1, cz_ BK271 2, cz_ BK271 3, cz_ BK272 0, cz_ BK272 1, cz_ BK272 2⟩ (fun hHeld => ?_)
     clear hK K
     refine nm_ (some 14) ?_
     refine on_ HT_ 7 (some 79) (bv_ 16 8447) (fun K hK => ?_)
     refine Kd.R_lit_step k72 _ 72 ?hg (N := 79) ?hd (xs := ([(⟨(⟨a2_0, a2_1, a2_2⟩ : S31), x12_1⟩ : S72)] : List (S72))) (inner := [.int .i64 a2_0, .int .i64 a2_1, .int .i64 a2_2, .int .i64 x12_1]) (ok := fun _ => True) (okp := fun _ => True) ?hr ?hp (fun _ hk => hk) trivial (Below.refl _ _) (Nat.le_refl _) (by simp) ?_; (case hd => rfl); (case hg => rfl); (case hr => first | (go_simp; done) | (go_simp; rfl)); (case hp => exact (Reps.c4 (show Kd.M k72 _ _ _ (⟨(⟨a2_0, a2_1, a2_2⟩ : S31), x12_1⟩ : S72) [.int .i64 a2_0, .int .i64 a2_1, .int .i64 a2_2, .int .i64 x12_1] from (k72_mkM _ _ _ (⟨(⟨a2_0, a2_1, a2_2⟩ : S31), x12_1⟩ : S72) )) (Reps.none _ _)))
     intro v281 w74 ho75 hb hg_ hnew_
     clear hg_ hnew_
     (first | rw [← Ny280.out] at ho75 | (simp only [Int.reduceToNat] at ho75; rw [← Ny280.out] at ho75))
     have HO282 := Aside0.mk (Kd.R_lower (Kd.R_new' ho75 (Kd.R_lt (ra_ HO_11.out))) (below_size (bw_ HB).out))
     replace HO_11 := Aside0.mk (Kd.R_elder' (ra_ HO_11.out) (Kd.R_base ho75) hb)
     replace BK271 := bb_ BK271 hb
     replace BK272 := bb_ BK272 hb
     replace BK273 := bb_ BK273 hb
     replace BK293 := bb_ BK293 hb
     replace HB := bt_ HB hb
     clear hb ho75
     obtain ⟨Ao77, co77, eo77⟩ := Kd.R_slice HO282.out
     (first | subst eo77 | (injection eo77 with f1_ f2_ f3_; have f4_ := f1_.symm; have f5_ := f3_.symm; clear f1_ f2_ f3_; subst f4_; subst f5_))
     refine hK.out _ _ ⟨cz_ BK271 0, cz_ BK271 1, cz_ BK271 2, cz_ BK271 3, cz_ BK272 0, cz_ BK272 1, cz_ BK272 2⟩ (fun hHeld => ?_)
     clear hK K
     refine nm_ (some 79) ?_
     refine on_ HT_ 8 (some 80) (bv_ 16 8703) (fun K hK => ?_)
     refine Kd.R_append_rows_step k72 (w0 := w) w.heap.size (by rfl) (.tmp 75) (.tmp 79) 32 72 (.agg #[(.int .i64 0), (.int .i64 0), (.int .i64 0), (.int .i64 0)]) 32 rfl Try.underlying32 info72 rfl (by decide) (by omega) (.slice Ao71 x11_1.length co71) x11_1 y280 _ _ _ (fun k_ => some k_ ≠ (.slice Ao77 y280.length co77 : Value).ownBlock) (fun _ => False) rfl rfl ?aO ?aR (fun _ _ h => h) (fun _ h => h.elim) ?aF ?aB ?aS ?aL ?_
     (case aR => repeat (first | exact (Kd.R_reads' HO282.out).2.2 | (with_reducible refine Kd.C_alloc ?_ _) | (with_reducible refine Kd.C_drewN ?_ _) | (with_reducible refine Kd.C_drew ?_)))
     (case aB => exact (bw_ HB).out)
     (case aF => exact (fun k_ hk => Kd.fresh' (Kd.R_lt (ra_ HO282.out)) k_ hk))
     (case aO => exact (by (with_reducible repeat (first | apply Kd.R_alloc | apply Kd.R_drewN | apply Kd.R_drew)); exact Kd.R_mono HO_11.out (fun _ hk => hk.2)))
     (case aS => exact (below_size (bw_ HB).out))
     (case aL => have := LMc66.out; omega)
     intro v284 w76 ho hb hg hat
     rw [← Ny283.out] at ho
     have n0_ := Aside0.mk (blk_grown (g := gb271) (o := .cells #[.int .i64 a1_0, .int .i64 a1_1, .int .i64 a1_2, .slice A1_3 l1_3.length c1_3] 34 (0, 0)) (bl_ BK271).out hg (Kd.R_ne HO_11.out BK271.out (by decide)))
     have n1_ := Aside0.mk (blk_grown (g := gb272) (o := .cells #[.int .i64 a2_0, .int .i64 a2_1, .int .i64 a2_2] 31 (0, 0)) (bl_ BK272).out hg (Kd.R_ne HO_11.out BK272.out (by decide)))
     have n2_ := Aside0.mk (blk_grown (g := gb273) (o := .cells #[.int .i64 x274000_1, .int .i64 x274001_1, .int .i64 x274002_1, .slice none 0 0] 34 (0, 0)) (bl_ BK273).out hg (Kd.R_ne HO_11.out BK273.out (by decide)))
     have n3_ := Aside0.mk (blk_grown (g := gb293) (o := .cells #[.int .i64 0, .int .i64 0, .int .i64 0, .slice none 0 0] 34 (0, 0)) (bl_ BK293).out hg (Kd.R_ne HO_11.out BK293.out (by decide)))
     have n4_ := Aside0.mk (Kd.R_after (ok := (fun _ => True)) (ra_ HO282.out) hg hat)
     have n5_ := Aside0.mk (hb)
     have n6_ := Aside0.mk (ho)
     clear BK271
     clear BK272
     clear BK273
     clear BK293
     clear HO282
     clear HB
     clear HO_11
     have BK271 := n0_
     have BK272 := n1_
     have BK273 := n2_
     have BK293 := n3_
     have HO282 := n4_
     have HB := n5_
     have HO285 := n6_
     clear n0_ n1_ n2_ n3_ n4_ n5_ n6_
     clear ho hb hg hat
     obtain ⟨Ao78, co78, eo78⟩ := Kd.R_slice HO285.out
     (first | subst eo78 | (injection eo78 with f1_ f2_ f3_; have f4_ := f1_.symm; have f5_ := f3_.symm; clear f1_ f2_ f3_; subst f4_; subst f5_))
     refine hK.out _ _ ⟨cz_ BK271 0, cz_ BK271 1, cz_ BK271 2, cz_ BK271 3, cz_ BK272 0, cz_ BK272 1, cz_ BK272 2⟩ (fun hHeld => ?_)
     clear hK K
     refine nm_ (some 80) ?_
     refine on_ HT_ 9 (some 81) (bv_ 16 9215) (fun K hK => ?_)
     refine gs_ Try.func43 #[.int .i64 a0, .agg #[.int .i64 a1_0, .int .i64 a1_1, .int .i64 a1_2], .slice Ao78 y283.length co78] ?_
     with_reducible refine (spec_l08Told.calls k1 a0 a1_0 a1_1 a1_2 _ _ y283 t286 t287 t288 t289 t292 _ ?side1 ?side2 A67.out).mono ?_
     (case side1 => exact ca_ (Kd.R_reads' HO285.out).2.2)
     (case side2 => exact (Kd.R_reads' HO285.out).2.1)
     rintro e w79 ⟨v290, rfl, ho0, hb⟩
     refine ⟨_, rfl, ?_⟩
     have HO291 := Aside0.mk (Kd.R_lower (Kd.R_new' (Kd.R_new' ho0 (Kd.R_lt (ra_ HO282.out))) (Kd.R_lt (ra_ HO285.out))) (below_size (bw_ HB).out))
     replace HO282 := Aside0.mk (Kd.R_elder' (ra_ HO282.out) (Kd.R_base ho0) hb)
     replace HO285 := Aside0.mk (Kd.R_elder' (ra_ HO285.out) (Kd.R_base ho0) hb)
     replace BK271 := bb_ BK271 hb
     replace BK272 := bb_ BK272 hb
     replace BK273 := bb_ BK273 hb
     replace BK293 := bb_ BK293 hb
     replace HB := bt_ HB hb
     try clear hb
     (try clear ho0)
     refine hK.out _ _ ⟨cz_ BK271 0, cz_ BK271 1, cz_ BK271 2, cz_ BK271 3, cz_ BK272 0, cz_ BK272 1, cz_ BK272 2⟩ (fun hHeld => ?_)
     clear hK K
     refine nm_ (some 81) ?_
     refine px_ HT_ 10 71 10239 ?_
     refine px_ HT_ 11 82 12287 ?_
     refine px_ HT_ 12 83 16383 ?_
     exact norm_ (by simp only [putAll, Act.put, lstS, lstZ, lstC]) (hCont (.slice Ao77 y280.length co77, .slice Ao78 y283.length co78, v290, gb293) _ ⟨hHeld, (by (with_reducible repeat (first | apply Kd.R_alloc | apply Kd.R_drewN | apply Kd.R_drew)); exact Kd.R_mono HO282.out (fun _ hk => ⟨hk.1.2, hk.2⟩)), (ra_ HO285.out), (by (with_reducible repeat (first | apply Kd.R_alloc | apply Kd.R_drewN | apply Kd.R_drew)); exact Kd.R_mono HO291.out (fun _ hk => ⟨hk.1.2, hk.2⟩)), (bl_ BK271).out, (bl_ BK272).out, (bl_ BK273).out, (bl_ BK293).out, GW293.out, GW293.out, NB271_293.out, NB293_271.out, NB272_293.out, NB293_272.out, NB273_293.out, NB293_273.out, (bw_ HB).out⟩)
    rintro ⟨v281, v284, v290, gb293⟩ w80 ⟨hS_, h0_, h1_, h2_, h3_, h4_, h5_, h6_, h7_, h8_, h9_, h10_, h11_, h12_, h13_, h14_, h15_⟩
    clear HO_11 BK271 BK272 BK273 HB
    have HO282 := Aside0.mk h0_
    have HO285 := Aside0.mk h1_
    have HO291 := Aside0.mk h2_
    have BK271 := Aside0.mk h3_
    have BK272 := Aside0.mk h4_
    have BK273 := Aside0.mk h5_
    have BK293 := Aside0.mk h6_
    have GW293 := Aside0.mk h7_
    have GW293 := Aside0.mk h8_
    have NB271_293 := Aside0.mk h9_
    have NB293_271 := Aside0.mk h10_
    have NB272_293 := Aside0.mk h11_
    have NB293_272 := Aside0.mk h12_
    have NB273_293 := Aside0.mk h13_
    have NB293_273 := Aside0.mk h14_
    have HB := Aside0.mk h15_
    clear h0_ h1_ h2_ h3_ h4_ h5_ h6_ h7_ h8_ h9_ h10_ h11_ h12_ h13_ h14_ h15_
    have hHeld : w80.cell? ⟨gb271, 0, none⟩ = some (.int .i64 a1_0) ∧ w80.cell? ⟨gb271, 1, none⟩ = some (.int .i64 a1_1) ∧ w80.cell? ⟨gb271, 2, none⟩ = some (.int .i64 a1_2) ∧ w80.cell? ⟨gb271, 3, none⟩ = some (.slice A1_3 l1_3.length c1_3) ∧ w80.cell? ⟨gb272, 0, none⟩ = some (.int .i64 a2_0) ∧ w80.cell? ⟨gb272, 1, none⟩ = some (.int .i64 a2_1) ∧ w80.cell? ⟨gb272, 2, none⟩ = some (.int .i64 a2_2) := hS_
    obtain ⟨Ao84, co84, eo84⟩ := Kd.R_slice HO291.out
    (first | subst eo84 | (injection eo84 with f1_ f2_ f3_; have f4_ := f1_.symm; have f5_ := f3_.symm; clear f1_ f2_ f3_; subst f4_; subst f5_))
    refine norm_ (a' := ?_) ?_ ?_
    rotate_left
    ·simp only [putAll, Act.put, lstS, lstZ, lstC]
     rfl
    refine on_ HT_ 14 none (bv_ 16 32767) (fun K hK => ?_)
    have hs81 : w80.cell? ⟨gb293, 0, none⟩ = some (.int .i64 0) := (blk_cell BK293.out 0).trans rfl
    have hfs81 := blk_frozen BK293.out 0
    have hns81_0 := NB271_293.out
    have hns81_1 := NB272_293.out
    have hns81_2 := NB273_293.out
    have hms81_0 := NB293_271.out
    have hms81_1 := NB293_272.out
    have hms81_2 := NB293_273.out
    have hs82 : w80.cell? ⟨gb293, 1, none⟩ = some (.int .i64 0) := (blk_cell BK293.out 1).trans rfl
    have hfs82 := blk_frozen BK293.out 1
    have hns82_0 := NB271_293.out
    have hns82_1 := NB272_293.out
    have hns82_2 := NB273_293.out
    have hms82_0 := NB293_271.out
    have hms82_1 := NB293_272.out
    have hms82_2 := NB293_273.out
    have hs83 : w80.cell? ⟨gb293, 2, none⟩ = some (.int .i64 0) := (blk_cell BK293.out 2).trans rfl
    have hfs83 := blk_frozen BK293.out 2
    have hns83_0 := NB271_293.out
    have hns83_1 := NB272_293.out
    have hns83_2 := NB273_293.out
    have hms83_0 := NB293_271.out
    have hms83_1 := NB293_272.out
    have hms83_2 := NB293_273.out
    have hs85 : w80.cell? ⟨gb293, 3, none⟩ = some (.slice none 0 0) := (blk_cell BK293.out 3).trans rfl
    have hfs85 := blk_frozen BK293.out 3
    have hns85_0 := NB271_293.out
    have hns85_1 := NB272_293.out
    have hns85_2 := NB273_293.out
    have hms85_0 := NB293_271.out
    have hms85_1 := NB293_272.out
    have hms85_2 := NB293_273.out
    refine skip_ (w1 := ?_) (by rfl) rfl ?_ ?_
    rotate_left
    ·go_simp
     rfl
    refine hK.out _ _ ⟨(cg_ NB271_293 ((cg_ NB271_293 ((cg_ NB271_293 ((cg_ NB271_293 (hHeld.1)))))))), (cg_ NB271_293 ((cg_ NB271_293 ((cg_ NB271_293 ((cg_ NB271_293 (hHeld.2.1)))))))), (cg_ NB271_293 ((cg_ NB271_293 ((cg_ NB271_293 ((cg_ NB271_293 (hHeld.2.2.1)))))))), (cg_ NB271_293 ((cg_ NB271_293 ((cg_ NB271_293 ((cg_ NB271_293 (hHeld.2.2.2.1)))))))), (cg_ NB272_293 ((cg_ NB272_293 ((cg_ NB272_293 ((cg_ NB272_293 (hHeld.2.2.2.2.1)))))))), (cg_ NB272_293 ((cg_ NB272_293 ((cg_ NB272_293 ((cg_ NB272_293 (hHeld.2.2.2.2.2.1)))))))), (cg_ NB272_293 ((cg_ NB272_293 ((cg_ NB272_293 ((cg_ NB272_293 (hHeld.2.2.2.2.2.2))))))))⟩ (fun hHeld => ?_)
    clear hK K
    refine px_ HT_ 15 15 65535 ?_
    refine done_ (done_of HT_.out (by kernel_rfl)) ?_
    have hnb86 := NB293_271.out
    have hnc86 := NB271_293.out
    have hnb87 := NB293_272.out
    have hnc87 := NB272_293.out
    have hnb88 := NB293_273.out
    have hnc88 := NB273_293.out
    obtain ⟨hcz89_0, hcz89_1, hcz89_2, hcz89_3, hfz89_0, hfz89_1, hfz89_2, hfz89_3⟩ := ch4_ BK293
    have hnb90 := NB273_272.out
    have hnc90 := NB272_273.out
    obtain ⟨hcz91_0, hcz91_1, hcz91_2, hcz91_3, hfz91_0, hfz91_1, hfz91_2, hfz91_3⟩ := ch4_ BK273
    try go_wp2
    refine bodyPost_ret (results_ct rfl _ _ gb273 34 #[.int .i64 t286, .int .i64 t287, .int .i64 t288, .slice Ao84 t289.length co84] (0, 0) _ rfl (bp_ BK273).out Try.underlying34 rfl (by kernel_rfl)) rfl ?_
    exact ⟨_, es_, by (with_reducible repeat (first | apply Kd.R_alloc | apply Kd.R_drewN | apply Kd.R_drew)); exact Kd.R_mono (Kd.R_far (p := ⟨gb273, 3, none⟩) (Kd.R_far (p := ⟨gb273, 2, none⟩) (Kd.R_far (p := ⟨gb273, 1, none⟩) (Kd.R_far (p := ⟨gb273, 0, none⟩) (Kd.R_far (p := ⟨gb293, 3, none⟩) (Kd.R_far (p := ⟨gb293, 2, none⟩) (Kd.R_far (p := ⟨gb293, 1, none⟩) (Kd.R_far (p := ⟨gb293, 0, none⟩) (Kd.R_types (Kd.R_types HO291.out BK293.out (by decide)) BK273.out (by decide)) (fun _ hk => hk.1.2) (.int .i64 t286)) (fun _ hk => hk.1.2) (.int .i64 t287)) (fun _ hk => hk.1.2) (.int .i64 t288)) (fun _ hk => hk.1.2) (.slice Ao84 t289.length co84)) (fun _ hk => hk.2) (.int .i64 t286)) (fun _ hk => hk.2) (.int .i64 t287)) (fun _ hk => hk.2) (.int .i64 t288)) (fun _ hk => hk.2) (.slice Ao84 t289.length co84)) (fun _ hk => trivial), (bw_ HB).out⟩
   rw [if_neg c66] at H
   exact absurd H (by simp)
 simp only [Option.some.injEq, Prod.mk.injEq] at H
 obtain ⟨rfl, rfl, rfl, rfl, rfl⟩ := H
 go_enter Try.func16, Try.ntmps16
 go_wp2_with (first | ((refine gd_ 4 ?_); refine by_ 4 #[.int .i64 a1_0, .int .i64 a1_1, .int .i64 a1_2, .slice A1_3 l1_3.length c1_3] 34 HB ?_; intro gb271 hg w92 BK271 hb GW271 HB_; replace HB := HB_; clear hb hg) | ((refine gd_ 5 ?_); refine by_ 5 #[.int .i64 a2_0, .int .i64 a2_1, .int .i64 a2_2] 31 HB ?_; intro gb272 hg w93 BK272 hb GW272 HB_; have NB271_272 := bm_ BK271 hg; have NB272_271 := bn_ BK271 hg; replace BK271 := bb_ BK271 hb; replace HB := HB_; clear hb hg) | ((refine gd_ 6 ?_); refine by_ 6 #[.int .i64 0, .int .i64 0, .int .i64 0, .slice none 0 0] 34 HB ?_; intro gb273 hg w94 BK273 hb GW273 HB_; have NB271_273 := bm_ BK271 hg; have NB273_271 := bn_ BK271 hg; have NB272_273 := bm_ BK272 hg; have NB273_272 := bn_ BK272 hg; replace BK271 := bb_ BK271 hb; replace BK272 := bb_ BK272 hb; replace HB := HB_; clear hb hg; have hnb95 := NB271_272.out; have hnc95 := NB272_271.out; have hnb96 := NB271_273.out; have hnc96 := NB273_271.out; obtain ⟨hcz97_0, hcz97_1, hcz97_2, hcz97_3, hfz97_0, hfz97_1, hfz97_2, hfz97_3⟩ := ch4_ BK271; have hnb98 := NB272_273.out; have hnc98 := NB273_272.out; obtain ⟨hcz99_0, hcz99_1, hcz99_2, hfz99_0, hfz99_1, hfz99_2⟩ := ch3_ BK272) | ((refine gc_ 39 ?_); refine ge_ 19 Try.func39 #[.int .i64 a0, .agg #[.int .i64 a1_0, .int .i64 a1_1, .int .i64 a1_2, .slice A1_3 l1_3.length c1_3], .agg #[.int .i64 a2_0, .int .i64 a2_1, .int .i64 a2_2]] ?_; (with_reducible refine (spec_l08Code.calls k a0 a1_0 a1_1 a1_2 _ _ l1_3 a2_0 a2_1 a2_2 t274 _ ?side1 ?side2 A4.out).mono ?_); (case side1 => exact ca_ (Kd.C_below HR1_3.out HB.out)); (case side2 => exact HC1_3.out); rintro e w100 ⟨rfl, hb⟩; refine ⟨_, rfl, ?_⟩; replace BK271 := bb_ BK271 hb; replace BK272 := bb_ BK272 hb; replace BK273 := bb_ BK273 hb; replace HB := bt_ HB hb; (try clear hb); obtain ⟨hcz101_0, hcz101_1, hcz101_2, hcz101_3, hfz101_0, hfz101_1, hfz101_2, hfz101_3⟩ := ch4_ BK273))
 refine bodyPost_ret (results_ct rfl _ _ gb273 34 #[.int .i64 0, .int .i64 0, .int .i64 0, .slice none 0 0] (0, 0) _ rfl (bp_ BK273).out Try.underlying34 rfl (by kernel_rfl)) rfl ?_
 exact ⟨_, es_, by first | exact Kd.R_nil _ _ _ _ _ | exact Kd.N_nil _ _ _ _ _ | exact Kd.V_nil _ _ _ _ _ | exact Kd.Q_nil _ _ _ _ _ | exact Kd.S_nil _ _ _ _ _, (bw_ HB).out⟩
end Go.Proofs.Ytdfcoebadjhjlaa.QG
