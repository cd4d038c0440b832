import Derived.Test.YtdfcoebadjhjlaaQIx5
import Derived.Test.YtdfcoebadjhjlaaQIx22
import Derived.Test.YtdfcoebadjhjlaaQIx29
import Derived.Test.YtdfcoebadjhjlaaQIx30
import Derived.Test.YtdfcoebadjhjlaaQIx31
namespace Go.Proofs.Ytdfcoebadjhjlaa.QI
open Go.RowKit Go.Proofs.YtdfcoebadjhjlaaW.PrintWords Go.Proofs.YtdfcoebadjhjlaaW.PrintLast Go.Proofs.YtdfcoebadjhjlaaW.PrintMore
attribute [local go_sem] isSome_setCell max2_int min2_int max_two min_two max_three min_three max_four min_four
set_option linter.unusedVariables false
set_option linter.unusedSimpArgs false

attribute [local go_sem high] eqA31
/-! ### spec_l08Flow: function 31 -/
mutual
def spec_l08Flow.l0 : Nat → Int → List (S63) → Int → Int → Int → Int → Int → Int → List (S72) → Option ((List (S63)) × Int)
 | 0, _, _, _, _, _, _, _, _, _ => none
 | k + 1, x0, x6, x7, x8, x9, x257000, x257001, x257002, x257003 => if x9 < (x257003.length : Int) then (if 0 ≤ x9 then (spec_l08Flow.l0 k x0 x6 (mx x7 ((rd_T72 x257003 x9).f0.f0)) x8 (wrap64 (x9 + 1)) x257000 x257001 x257002 x257003) else (none)) else (spec_l08Flow.l1 k x0 x6 x7 x8 (wrap64 (x257000 + 1)) x257000 x257001 x257002 x257003)
def spec_l08Flow.l1 : Nat → Int → List (S63) → Int → Int → Int → Int → Int → Int → List (S72) → Option ((List (S63)) × Int)
 | 0, _, _, _, _, _, _, _, _, _ => none
 | k + 1, x0, x6, x7, x8, x10, x257000, x257001, x257002, x257003 => if x10 ≤ x7 then (spec_l08Flow.l2 k x0 x6 x7 x8 x10 (([] : List (S72))) 0 x257000 x257001 x257002 x257003) else (some (x6, x8))
def spec_l08Flow.l2 : Nat → Int → List (S63) → Int → Int → Int → List (S72) → Int → Int → Int → Int → List (S72) → Option ((List (S63)) × Int)
 | 0, _, _, _, _, _, _, _, _, _, _, _ => none
 | k + 1, x0, x6, x7, x8, x10, x11, x12, x257000, x257001, x257002, x257003 => if x12 < (x257003.length : Int) then (if 0 ≤ x12 then (if ((rd_T72 x257003 x12).f0.f0) < x10 then (spec_l08Flow.l2 k x0 x6 x7 x8 x10 x11 (wrap64 (x12 + 1)) x257000 x257001 x257002 x257003) else ((spec_l02Up.f k x0 ((rd_T72 x257003 x12).f0.f0) ((rd_T72 x257003 x12).f0.f1) ((rd_T72 x257003 x12).f0.f2) x10).bind fun bt266 => (if bt266.2.2.2 = true then (spec_l08Flow.l3 k x0 x6 x7 x8 x10 x11 x12 false 0 x257000 x257001 x257002 x257003 bt266.1 bt266.2.1 bt266.2.2.1) else (some (([] : List (S63)), 3))))) else (none)) else ((spec_l08Sorted.f k x0 x11).bind fun t276 => (spec_l08Flow.l4 k x0 x6 x7 x8 x10 t276 0 x257000 x257001 x257002 x257003))
def spec_l08Flow.l3 : Nat → Int → List (S63) → Int → Int → Int → List (S72) → Int → Bool → Int → Int → Int → Int → List (S72) → Int → Int → Int → Option ((List (S63)) × Int)
 | 0, _, _, _, _, _, _, _, _, _, _, _, _, _, _, _, _ => none
 | k + 1, x0, x6, x7, x8, x10, x11, x12, x15, x16, x257000, x257001, x257002, x257003, x271000, x271001, x271002 => if x16 < (x11.length : Int) then (if x15 = true then (spec_l08Flow.l3 k x0 x6 x7 x8 x10 x11 x12 true (wrap64 (x16 + 1)) x257000 x257001 x257002 x257003 x271000 x271001 x271002) else (if 0 ≤ x16 then (spec_l08Flow.l3 k x0 x6 x7 x8 x10 x11 x12 (((rd_T72 x11 x16).f0.f0) == x271000 && (((rd_T72 x11 x16).f0.f1) == x271001 && (((rd_T72 x11 x16).f0.f2) == x271002))) (wrap64 (x16 + 1)) x257000 x257001 x257002 x257003 x271000 x271001 x271002) else (none))) else (if x15 = true then (spec_l08Flow.l2 k x0 x6 x7 x8 x10 x11 (wrap64 (x12 + 1)) x257000 x257001 x257002 x257003) else ((spec_l08Weight.f k x0 x257000 x257001 x257002 x257003 x271000 x271001 x271002).bind fun t272 => (if x11.length < 4398046511104 then (spec_l08Flow.l2 k x0 x6 x7 x8 x10 (x11 ++ [(⟨(⟨x271000, x271001, x271002⟩ : S31), t272⟩ : S72)]) (wrap64 (x12 + 1)) x257000 x257001 x257002 x257003) else (none))))
def spec_l08Flow.l4 : Nat → Int → List (S63) → Int → Int → Int → List (S72) → Int → Int → Int → Int → List (S72) → Option ((List (S63)) × Int)
 | 0, _, _, _, _, _, _, _, _, _, _, _ => none
 | k + 1, x0, x6, x7, x8, x10, x11, x17, x257000, x257001, x257002, x257003 => if x17 < (x11.length : Int) then (if 0 ≤ x17 then ((spec_l01In.f ((rd_T72 x11 x17).f1) (-1000000) 1000000).bind fun t280 => (if t280 = true then (if x6.length < 4398046511104 then (spec_l08Flow.l4 k x0 (x6 ++ [(⟨(⟨(rd_T72 x11 x17).f0.f0, (rd_T72 x11 x17).f0.f1, (rd_T72 x11 x17).f0.f2⟩ : S31), (rd_T72 x11 x17).f1⟩ : S63)]) x7 x8 x10 x11 (wrap64 (x17 + 1)) x257000 x257001 x257002 x257003) else (none)) else (if x6.length < 4398046511104 then (spec_l08Flow.l4 k x0 (x6 ++ [(⟨(⟨(rd_T72 x11 x17).f0.f0, (rd_T72 x11 x17).f0.f1, (rd_T72 x11 x17).f0.f2⟩ : S31), (rd_T72 x11 x17).f1⟩ : S63)]) x7 3 x10 x11 (wrap64 (x17 + 1)) x257000 x257001 x257002 x257003) else (none)))) else (none)) else (spec_l08Flow.l1 k x0 x6 x7 x8 (wrap64 (x10 + 1)) x257000 x257001 x257002 x257003)
end
def spec_l08Flow.f (k : Nat) (a0 a1_0 a1_1 a1_2 : Int) (l1_3 : List (S72)) : Option ((List (S63)) × Int) := spec_l08Flow.l0 k a0 (([] : List (S63))) a1_0 0 0 a1_0 a1_1 a1_2 l1_3
def spec_l08Flow.T21 : Bool × List (List Nat × List Nat) := (true, [([], []), ([0], [0]), ([1], [1]), ([1], [1]), ([2, 3, 1], [1, 2, 3]), ([4, 1], [1, 4]), ([5, 1], [1, 5]), ([1], [1]), ([6, 7, 1], [1, 6, 7]), ([1, 8], [1, 8]), ([9, 1, 0, 1, 2, 3, 4, 5, 6, 7, 8, 9], [0, 9])])
def spec_l08Flow.B21 : List Nat := [0, 1, 3, 3, 15, 31, 63, 3, 255, 511, 1023]
theorem spec_l08Flow.tab21 : rtab .any (opsOf Try.f31 21) = spec_l08Flow.T21 := by kernel_rfl
theorem spec_l08Flow.bits21 : waitsOk spec_l08Flow.T21.2 spec_l08Flow.B21 = true := by kernel_rfl
def spec_l08Flow.T23 : Bool × List (List Nat × List Nat) := (true, [([], []), ([], []), ([], []), ([], []), ([], []), ([2, 3, 4], [2, 3, 4]), ([1, 5], [1, 5]), ([6], [6]), ([0, 7, 5], [0, 7]), ([8, 8, 0, 1, 2, 3, 4, 5, 6, 7, 8], [0, 8])])
def spec_l08Flow.B23 : List Nat := [0, 0, 0, 0, 0, 28, 62, 126, 255, 511]
theorem spec_l08Flow.tab23 : rtab .any (opsOf Try.f31 23) = spec_l08Flow.T23 := by kernel_rfl
theorem spec_l08Flow.bits23 : waitsOk spec_l08Flow.T23.2 spec_l08Flow.B23 = true := by kernel_rfl
def spec_l08Flow.T30 : Bool × List (List Nat × List Nat) := (true, [([], []), ([], []), ([], []), ([1, 2], [1, 2]), ([3], [3]), ([4], [4]), ([], []), ([], []), ([6, 7], [6, 7]), ([8], [8]), ([9], [9]), ([5, 10], [5, 10]), ([11], [11]), ([0, 12], [0, 12]), ([13, 13, 0, 1, 2, 3, 4, 5, 6, 7, 8, 9, 10, 11, 12, 13], [0, 13])])
def spec_l08Flow.B30 : List Nat := [0, 0, 0, 6, 14, 30, 0, 0, 192, 448, 960, 2046, 4094, 8191, 16383]
theorem spec_l08Flow.tab30 : rtab .any (opsOf Try.f31 30) = spec_l08Flow.T30 := by kernel_rfl
theorem spec_l08Flow.bits30 : waitsOk spec_l08Flow.T30.2 spec_l08Flow.B30 = true := by kernel_rfl
set_option maxHeartbeats 8000000 in
set_option maxRecDepth 100000 in
theorem spec_l08Flow.calls (k : Nat) (a0 a1_0 a1_1 a1_2 : Int) (A1_3 : Option Addr) (c1_3 : Nat) (l1_3 : List (S72)) (r1 : List (S63)) (r2 : Int) (w : World) (hr1_3 : Kd.C k72 w A1_3 l1_3.length l1_3) (hc1_3 : l1_3.length ≤ c1_3) (h : spec_l08Flow.f k a0 a1_0 a1_1 a1_2 l1_3 = some (r1, r2)) :
  Calls Try.prog 31 #[.int .i64 a0, .agg #[.int .i64 a1_0, .int .i64 a1_1, .int .i64 a1_2, .slice A1_3 l1_3.length c1_3]] w fun e w' => ∃ v0_ : Value, e = .returned (.tuple #[v0_, .int .i64 r2]) ∧ Kd.R k63 63 w' w.heap.size (fun _ => True) v0_ r1 ∧ Below w.heap.size w w' := by
 have hu34 := Try.underlying34
 have hu31 := Try.underlying31
 have hu72 := Try.underlying72
 have hu63 := Try.underlying63
 have HR1_3 := Aside0.mk hr1_3
 have HC1_3 := Aside0.mk hc1_3
 clear hr1_3 hc1_3
 have HB := Aside0.mk (Below.refl w.heap.size w)
 unfold spec_l08Flow.f at h
 have H := h
 clear h
 obtain ⟨y257, hy257⟩ : ∃ y_ : List (S63), y_ = (([] : List (S63))) := ⟨_, rfl⟩
 replace H : (spec_l08Flow.l0 k a0 y257 a1_0 0 0 a1_0 a1_1 a1_2 l1_3) = some (r1, r2) := by first | (rw [hy257]; with_reducible exact H) | (have H2_ := (Option.bind_some _ _).symm.trans H; rw [hy257]; with_reducible exact H2_) | (have H2_ := (Option.bind_some _ _).symm.trans H; with_reducible exact H2_) | with_reducible exact H | (rw [hy257]; exact H) | exact H
 have Ny257 := Aside0.mk hy257
 clear hy257
 have H' := Aside0.mk H
 clear H
 go_enter Try.func31, Try.ntmps31
 try go_wp2_with (first | ((refine gd_ 3 ?_); refine by_ 3 #[.int .i64 a1_0, .int .i64 a1_1, .int .i64 a1_2, .slice A1_3 l1_3.length c1_3] 34 HB ?_; intro gb256 hg w3 BK256 hb GW256 HB_; replace HB := HB_; clear hb hg))
 replace BK256 := bd_ BK256
 replace HB := be_ HB
 refine start_ (n := 7) (S := fun w' => w'.cell? ⟨gb256, 0, none⟩ = some (.int .i64 a1_0) ∧ w'.cell? ⟨gb256, 1, none⟩ = some (.int .i64 a1_1) ∧ w'.cell? ⟨gb256, 2, none⟩ = some (.int .i64 a1_2) ∧ w'.cell? ⟨gb256, 3, none⟩ = some (.slice A1_3 l1_3.length c1_3)) (ds := []) (bv_ 7 0) (by kernel_rfl) rfl rfl ⟨cz_ BK256 0, cz_ BK256 1, cz_ BK256 2, cz_ BK256 3⟩ (fun hHeld => ?_)
 generalize w3.drew = w4 at BK256 HB hHeld ⊢
 refine pure_ (i := 1) (N := some 19) (v := ?_) (a' := ?_) (bv_ 7 2) rfl rfl (by kernel_rfl) (fun _ _ _ h => h) (Or.inl ⟨by rfl, ?_⟩) ?_ ?_
 rotate_left
 ·intro w'
  go_simp
  with_reducible rfl
 rotate_left
 ·simp only [Act.put, lstS, lstZ, lstC, i64_w, i32_w]
  rfl
 refine pure_ (i := 2) (N := some 20) (v := ?_) (a' := ?_) (bv_ 7 6) rfl rfl (by kernel_rfl) (fun _ _ _ h => h) (Or.inl ⟨by rfl, ?_⟩) ?_ ?_
 rotate_left
 ·intro w'
  go_simp
  with_reducible rfl
 rotate_left
 ·simp only [Act.put, lstS, lstZ, lstC, i64_w, i32_w]
  rfl
 refine take_ (i := 3) (N := some 21) (v := ?_) (a' := ?_) (bv_ 7 14) rfl rfl (by kernel_rfl) (fun _ _ _ h => h) (Or.inl ⟨by rfl, ?_⟩) hHeld ?_ ?_
 rotate_left
 ·rintro w' ⟨s0, s1, s2, s3⟩
  go_simp
  with_reducible rfl
 rotate_left
 ·simp only [Act.put, lstS, lstZ, lstC, i64_w, i32_w]
  rfl
 refine one_ (i := 0) (N := some 18) (bv_ 7 15) rfl rfl (by kernel_rfl) (by decide) (fun K hK => ?_)
 refine Kd.R_lit_step k63 _ 63 ?hg (N := 18) ?hd (xs := ([] : List (S63))) (inner := []) (ok := fun _ => True) (okp := fun _ => True) ?hr ?hp (fun _ hk => hk) trivial (Below.refl _ _) (Nat.le_refl _) (by simp) ?_; (case hd => rfl); (case hg => rfl); (case hr => first | (go_simp; done) | (go_simp; rfl)); (case hp => exact (Reps.none _ _))
 intro v258 w5 ho6 hb hg_ hnew_
 clear hg_ hnew_
 (first | rw [← Ny257.out] at ho6 | (simp only [Int.reduceToNat] at ho6; rw [← Ny257.out] at ho6))
 have HO259 := Aside0.mk (Kd.R_lower ho6 (below_size (bw_ HB).out))
 replace BK256 := bb_ BK256 hb
 replace HB := bt_ HB hb
 clear hb ho6
 refine hK.out _ _ ⟨cz_ BK256 0, cz_ BK256 1, cz_ BK256 2, cz_ BK256 3⟩ (fun hHeld => ?_)
 clear hK K
 refine nm_ (some 18) ?_
 refine pure_ (i := 4) (N := some 6) (v := ?_) (a' := ?_) (bv_ 7 31) rfl rfl (by kernel_rfl) (fun _ _ _ h => h) (Or.inl ⟨by rfl, ?_⟩) ?_ ?_
 rotate_left
 ·intro w'
  go_simp
  with_reducible rfl
 rotate_left
 ·simp only [Act.put, lstS, lstZ, lstC, i64_w, i32_w]
  rfl
 refine pure_ (i := 5) (N := some 7) (v := ?_) (a' := ?_) (bv_ 7 63) rfl rfl (by kernel_rfl) (fun _ _ _ h => h) (Or.inl ⟨by rfl, ?_⟩) ?_ ?_
 rotate_left
 ·intro w'
  go_simp
  with_reducible rfl
 rotate_left
 ·simp only [Act.put, lstS, lstZ, lstC, i64_w, i32_w]
  rfl
 refine pure_ (i := 6) (N := some 8) (v := ?_) (a' := ?_) (bv_ 7 127) rfl rfl (by kernel_rfl) (fun _ _ _ h => h) (Or.inl ⟨by rfl, ?_⟩) ?_ ?_
 rotate_left
 ·intro w'
  go_simp
  with_reducible rfl
 rotate_left
 ·simp only [Act.put, lstS, lstZ, lstC, i64_w, i32_w]
  rfl
 refine done_ (by kernel_rfl) ?_
 try go_wp2
 go_loopg [7, 9] k (fun kq v7 v9 w' => ∃ (x7_1 : Int) (x9_1 : Int), v7 = .int .i64 x7_1 ∧ v9 = .int .i64 x9_1 ∧ Aside0 (spec_l08Flow.l0 kq a0 y257 x7_1 0 x9_1 a1_0 a1_1 a1_2 l1_3 = some (r1, r2)) ∧ Aside0 (kq ≤ k) ∧ Aside0 (Kd.R k63 63 w' w.heap.size (fun _ => True) v258 y257) ∧ Aside0 (w'.heap[gb256]? = some (.cells #[.int .i64 a1_0, .int .i64 a1_1, .int .i64 a1_2, (.slice A1_3 l1_3.length c1_3)] 34 (0, 0))) ∧ Aside0 (Below w.heap.size w w'))
 case atStart => exact ⟨(a1_0), (0), en_, en_, H', ⟨Nat.le_refl _⟩, ⟨by (with_reducible repeat (first | apply Kd.R_alloc | apply Kd.R_drewN | apply Kd.R_drew)); exact HO259.out⟩, bl_ BK256, bw_ HB⟩
 clear H'
 obtain ⟨x7_1, x9_1, rfl, rfl, HA, HK1, HO_6, BK256, HB⟩ := hrel
 cases gk with
 | zero => exact absurd HA.out (by simp [spec_l08Flow.l0])
 | succ k1 =>
  have H := HA.out
  clear HA
  simp only [spec_l08Flow.l0] at H
  replace H := il_ H
  rcases H with ⟨c7b0, H⟩ | ⟨c7b0, H⟩
  ·replace H := imn_ H
   obtain ⟨c8b0, H⟩ := H
   obtain ⟨ji9, hji9⟩ : ∃ j_ : Int, (mx x7_1 ((rd_T72 l1_3 x9_1).f0.f0)) = j_ := ⟨_, rfl⟩
   replace H : (spec_l08Flow.l0 k1 a0 y257 ji9 0 (wrap64 (x9_1 + 1)) a1_0 a1_1 a1_2 l1_3) = some (r1, r2) := by first | (rw [hji9] at H; exact H) | (simp only [hji9] at H ⊢; exact H)
   have hji9_ : (if x7_1 < ((rd_T72 l1_3 x9_1).f0.f0) then ((rd_T72 l1_3 x9_1).f0.f0) else x7_1) = ji9 := hji9
   have H' := Aside0.mk H
   clear H
   obtain ⟨hcz10_0, hcz10_1, hcz10_2, hcz10_3, hfz10_0, hfz10_1, hfz10_2, hfz10_3⟩ := ch4_ BK256
   have p260 : 0 ≤ (x9_1 : Int) := od_
   have q260 : x9_1 < (l1_3.length : Int) := od_
   obtain ⟨ad260, e260, hx260_0, hx260_1, hx260_2, hx260_3⟩ := at_T72 HR1_3.out x9_1 p260 q260
   cases e260
   replace hx260_0 := clTr HB.out hx260_0
   replace hx260_1 := clTr HB.out hx260_1
   replace hx260_2 := clTr HB.out hx260_2
   replace hx260_3 := clTr HB.out hx260_3
   replace p260 := eq_true p260
   replace q260 := eq_true q260
   go_wp2
   go_roundg k1
   case measure => have := HK1.out; omega
   case rel => exact ⟨(ji9), (wrap64 (x9_1 + 1)), (by first | rfl | (simp; done) | (simp only [← hji9] <;> (first | rfl | simp)) | (simp [*]; done)), en_, H', ⟨by have := HK1.out; omega⟩, ⟨by (with_reducible repeat (first | apply Kd.R_alloc | apply Kd.R_drewN | apply Kd.R_drew)); exact HO_6.out⟩, bl_ BK256, bw_ HB⟩
  have H' := Aside0.mk H
  clear H
  obtain ⟨hcz11_0, hcz11_1, hcz11_2, hcz11_3, hfz11_0, hfz11_1, hfz11_2, hfz11_3⟩ := ch4_ BK256
  go_wp2
  go_loopg [6, 8, 10] k1 (fun kq v6 v8 v10 w' => ∃ (x6_2 : List (S63)) (x8_2 : Int) (x10_2 : Int), v8 = .int .i64 x8_2 ∧ v10 = .int .i64 x10_2 ∧ Aside0 (spec_l08Flow.l1 kq a0 x6_2 x7_1 x8_2 x10_2 a1_0 a1_1 a1_2 l1_3 = some (r1, r2)) ∧ Aside0 (kq ≤ k1) ∧ Aside0 (Kd.R k63 63 w' w.heap.size (fun _ => True) v6 x6_2) ∧ Aside0 (w'.heap[gb256]? = some (.cells #[.int .i64 a1_0, .int .i64 a1_1, .int .i64 a1_2, (.slice A1_3 l1_3.length c1_3)] 34 (0, 0))) ∧ Aside0 (Below w.heap.size w w'))
  case atStart => exact ⟨(y257), (0), (wrap64 (a1_0 + 1)), en_, en_, H', ⟨Nat.le_refl _⟩, ⟨by (with_reducible repeat (first | apply Kd.R_alloc | apply Kd.R_drewN | apply Kd.R_drew)); exact HO_6.out⟩, bl_ BK256, bw_ HB⟩
  clear H'
  try clear c7b0
  try clear c8b0
  try clear hcz10_0 hcz10_1 hcz10_2 hcz10_3
  try clear hcz11_0 hcz11_1 hcz11_2 hcz11_3
  try clear hfz10_0 hfz10_1 hfz10_2 hfz10_3
  try clear hfz11_0 hfz11_1 hfz11_2 hfz11_3
  try clear hx260_0
  try clear hx260_1
  try clear hx260_2
  try clear hx260_3
  try clear p260
  try clear q260
  obtain ⟨x6_2, x8_2, x10_2, rfl, rfl, HA, HK2, HO_6, BK256, HB⟩ := hrel
  cases gk with
  | zero => exact absurd HA.out (by simp [spec_l08Flow.l1])
  | succ k2 =>
   have H := HA.out
   clear HA
   simp only [spec_l08Flow.l1] at H
   replace H := im_ H
   rcases H with ⟨c12b0, H⟩ | ⟨c12b0, H⟩
   ·obtain ⟨y261, hy261⟩ : ∃ y_ : List (S72), y_ = (([] : List (S72))) := ⟨_, rfl⟩
    replace H : (spec_l08Flow.l2 k2 a0 x6_2 x7_1 x8_2 x10_2 y261 0 a1_0 a1_1 a1_2 l1_3) = some (r1, r2) := by first | (rw [hy261]; with_reducible exact H) | (have H2_ := (Option.bind_some _ _).symm.trans H; rw [hy261]; with_reducible exact H2_) | (have H2_ := (Option.bind_some _ _).symm.trans H; with_reducible exact H2_) | with_reducible exact H | (rw [hy261]; exact H) | exact H
    have Ny261 := Aside0.mk hy261
    clear hy261
    have H' := Aside0.mk H
    clear H
    go_wp2_with (first | ((refine gd_ 47 ?_); refine Kd.R_lit k72 _ 72 ?hg (N := 47) ?hd (xs := ([] : List (S72))) (inner := []) (ok := fun _ => True) (okp := fun _ => True) ?hr ?hp (fun _ hk => hk) trivial (Below.refl _ _) (Nat.le_refl _) (by simp) ?_; (case hd => rfl); (case hg => rfl); (case hr => first | (go_simp; done) | (go_simp; rfl)); (case hp => exact (Reps.none _ _)); intro v262 w13 ho14 hb hg_ hnew_; clear hg_ hnew_; (first | rw [← Ny261.out] at ho14 | (simp only [Int.reduceToNat] at ho14; rw [← Ny261.out] at ho14)); have HO263 := Aside0.mk (Kd.R_lower ho14 (below_size (bw_ HB).out)); replace HO_6 := rb_ HO_6 hb; replace BK256 := bb_ BK256 hb; replace HB := bt_ HB hb; clear hb ho14))
    go_loopg [11, 12] k2 (fun kq v11 v12 w' => ∃ (x11_3 : List (S72)) (x12_3 : Int), v12 = .int .i64 x12_3 ∧ Aside0 (spec_l08Flow.l2 kq a0 x6_2 x7_1 x8_2 x10_2 x11_3 x12_3 a1_0 a1_1 a1_2 l1_3 = some (r1, r2)) ∧ Aside0 (kq ≤ k2) ∧ Aside0 (Kd.R k63 63 w' w.heap.size (fun _ => True) u6 x6_2) ∧ Aside0 (Kd.R k72 72 w' w.heap.size (fun _ => True) v11 x11_3) ∧ Aside0 (w'.heap[gb256]? = some (.cells #[.int .i64 a1_0, .int .i64 a1_1, .int .i64 a1_2, (.slice A1_3 l1_3.length c1_3)] 34 (0, 0))) ∧ Aside0 (Below w.heap.size w w'))
    case atStart => exact ⟨(y261), (0), en_, H', ⟨Nat.le_refl _⟩, ⟨by (with_reducible repeat (first | apply Kd.R_alloc | apply Kd.R_drewN | apply Kd.R_drew)); exact HO_6.out⟩, ⟨by (with_reducible repeat (first | apply Kd.R_alloc | apply Kd.R_drewN | apply Kd.R_drew)); exact HO263.out⟩, bl_ BK256, bw_ HB⟩
    clear H'
    try clear c7b0
    try clear c8b0
    try clear c12b0
    try clear hcz10_0 hcz10_1 hcz10_2 hcz10_3
    try clear hcz11_0 hcz11_1 hcz11_2 hcz11_3
    try clear hfz10_0 hfz10_1 hfz10_2 hfz10_3
    try clear hfz11_0 hfz11_1 hfz11_2 hfz11_3
    try clear hx260_0
    try clear hx260_1
    try clear hx260_2
    try clear hx260_3
    try clear p260
    try clear q260
    obtain ⟨x11_3, x12_3, rfl, HA, HK3, HO_6, HO_11, BK256, HB⟩ := hrel
    cases gk with
    | zero => exact absurd HA.out (by simp [spec_l08Flow.l2])
    | succ k3 =>
     have H := HA.out
     clear HA
     simp only [spec_l08Flow.l2] at H
     replace H := il_ H
     rcases H with ⟨c15b0, H⟩ | ⟨c15b0, H⟩
     ·replace H := imn_ H
      obtain ⟨c16b0, H⟩ := H
      replace H := il_ H
      rcases H with ⟨c17b0, H⟩ | ⟨c17b0, H⟩
      ·have H' := Aside0.mk H
       clear H
       obtain ⟨hcz18_0, hcz18_1, hcz18_2, hcz18_3, hfz18_0, hfz18_1, hfz18_2, hfz18_3⟩ := ch4_ BK256
       have p264 : 0 ≤ (x12_3 : Int) := od_
       have q264 : x12_3 < (l1_3.length : Int) := od_
       obtain ⟨ad264, e264, hx264_0, hx264_1, hx264_2, hx264_3⟩ := at_T72 HR1_3.out x12_3 p264 q264
       cases e264
       replace hx264_0 := clTr HB.out hx264_0
       replace hx264_1 := clTr HB.out hx264_1
       replace hx264_2 := clTr HB.out hx264_2
       replace hx264_3 := clTr HB.out hx264_3
       replace p264 := eq_true p264
       replace q264 := eq_true q264
       go_wp2
       go_roundg k3
       case measure => have := HK1.out; have := HK2.out; have := HK3.out; omega
       case rel => exact ⟨(x11_3), (wrap64 (x12_3 + 1)), en_, H', ⟨by have := HK1.out; have := HK2.out; have := HK3.out; omega⟩, ⟨by (with_reducible repeat (first | apply Kd.R_alloc | apply Kd.R_drewN | apply Kd.R_drew)); exact HO_6.out⟩, ⟨by (with_reducible repeat (first | apply Kd.R_alloc | apply Kd.R_drewN | apply Kd.R_drew)); exact HO_11.out⟩, bl_ BK256, bw_ HB⟩
      replace H := oc_ H
      obtain ⟨⟨t266, t267, t268, t269⟩, A19, H⟩ := H
      replace H := ib_ H
      rcases H with ⟨rfl, H⟩ | ⟨rfl, H⟩
      ·have H' := Aside0.mk H
       clear H
       obtain ⟨hcz21_0, hcz21_1, hcz21_2, hcz21_3, hfz21_0, hfz21_1, hfz21_2, hfz21_3⟩ := ch4_ BK256
       have p264 : 0 ≤ (x12_3 : Int) := od_
       have q264 : x12_3 < (l1_3.length : Int) := od_
       obtain ⟨ad264, e264, hx264_0, hx264_1, hx264_2, hx264_3⟩ := at_T72 HR1_3.out x12_3 p264 q264
       cases e264
       replace hx264_0 := clTr HB.out hx264_0
       replace hx264_1 := clTr HB.out hx264_1
       replace hx264_2 := clTr HB.out hx264_2
       replace hx264_3 := clTr HB.out hx264_3
       replace p264 := eq_true p264
       replace q264 := eq_true q264
       have p265 : 0 ≤ (x12_3 : Int) := od_
       have q265 : x12_3 < (l1_3.length : Int) := od_
       obtain ⟨ad265, e265, hx265_0, hx265_1, hx265_2, hx265_3⟩ := at_T72 HR1_3.out x12_3 p265 q265
       obtain rfl : ad264 = ad265 := (by injection e265)
       replace hx265_0 := clTr HB.out hx265_0
       replace hx265_1 := clTr HB.out hx265_1
       replace hx265_2 := clTr HB.out hx265_2
       replace hx265_3 := clTr HB.out hx265_3
       replace p265 := eq_true p265
       replace q265 := eq_true q265
       go_wp2_with (first | ((refine gc_ 69 ?_); refine ge_ 73 Try.func69 #[.int .i64 a0, .agg #[.int .i64 ((rd_T72 l1_3 x12_3).f0.f0), .int .i64 ((rd_T72 l1_3 x12_3).f0.f1), .int .i64 ((rd_T72 l1_3 x12_3).f0.f2)], .int .i64 x10_2] ?_; (with_reducible refine (spec_l02Up.calls k3 a0 ((rd_T72 l1_3 x12_3).f0.f0) ((rd_T72 l1_3 x12_3).f0.f1) ((rd_T72 l1_3 x12_3).f0.f2) x10_2 t266 t267 t268 true _ A19.out).mono ?_); rintro e w22 ⟨rfl, hb⟩; refine ⟨_, rfl, ?_⟩; replace HO_6 := rb_ HO_6 hb; replace HO_11 := rb_ HO_11 hb; replace BK256 := bb_ BK256 hb; replace HB := bt_ HB hb; (try clear hb)) | ((refine gd_ 13 ?_); refine bx_ 13 #[.int .i64 0, .int .i64 0, .int .i64 0] 31 ?_; intro gb270 hg w23 BK270 hb; have GW270 := bs_ HB hg; have NB256_270 := bm_ BK256 hg; have NB270_256 := bn_ BK256 hg; replace HO_6 := rb_ HO_6 hb; replace HO_11 := rb_ HO_11 hb; replace BK256 := bb_ BK256 hb; replace HB := bt_ HB hb; clear hb hg; have hnb24 := NB270_256.out; have hnc24 := NB256_270.out; obtain ⟨hcz25_0, hcz25_1, hcz25_2, hfz25_0, hfz25_1, hfz25_2⟩ := ch3_ BK270))
       go_loopg [15, 16] k3 (fun kq v15 v16 w' => ∃ (x15_4 : Bool) (x16_4 : Int), v15 = .bool x15_4 ∧ v16 = .int .i64 x16_4 ∧ Aside0 (spec_l08Flow.l3 kq a0 x6_2 x7_1 x8_2 x10_2 x11_3 x12_3 x15_4 x16_4 a1_0 a1_1 a1_2 l1_3 t266 t267 t268 = some (r1, r2)) ∧ Aside0 (kq ≤ k3) ∧ Aside0 (Kd.R k63 63 w' w.heap.size (fun _ => True) u6 x6_2) ∧ Aside0 (Kd.R k72 72 w' w.heap.size (fun _ => True) u11 x11_3) ∧ Aside0 (w'.heap[gb256]? = some (.cells #[.int .i64 a1_0, .int .i64 a1_1, .int .i64 a1_2, (.slice (some ad264) l1_3.length c1_3)] 34 (0, 0))) ∧ Aside0 (w'.heap[gb270]? = some (.cells #[.int .i64 t266, .int .i64 t267, .int .i64 t268] 31 (0, 0))) ∧ Aside0 (Below w.heap.size w w'))
       case atStart => exact ⟨(false), (0), en_, en_, H', ⟨Nat.le_refl _⟩, ⟨by (with_reducible repeat (first | apply Kd.R_alloc | apply Kd.R_drewN | apply Kd.R_drew)); exact Kd.R_mono (Kd.R_far (p := ⟨gb270, 2, none⟩) (Kd.R_far (p := ⟨gb270, 1, none⟩) (Kd.R_far (p := ⟨gb270, 0, none⟩) (Kd.R_types HO_6.out BK270.out (by decide)) (fun _ hk => hk.2) (.int .i64 t266)) (fun _ hk => hk.2) (.int .i64 t267)) (fun _ hk => hk.2) (.int .i64 t268)) (fun _ hk => trivial)⟩, ⟨by (with_reducible repeat (first | apply Kd.R_alloc | apply Kd.R_drewN | apply Kd.R_drew)); exact Kd.R_mono (Kd.R_far (p := ⟨gb270, 2, none⟩) (Kd.R_far (p := ⟨gb270, 1, none⟩) (Kd.R_far (p := ⟨gb270, 0, none⟩) (Kd.R_types HO_11.out BK270.out (by decide)) (fun _ hk => hk.2) (.int .i64 t266)) (fun _ hk => hk.2) (.int .i64 t267)) (fun _ hk => hk.2) (.int .i64 t268)) (fun _ hk => trivial)⟩, fl_ BK256 NB256_270, bp_ BK270, bw_ HB⟩
       clear H'
       try clear c7b0
       try clear c8b0
       try clear c12b0
       try clear c15b0
       try clear c16b0
       try clear c17b0
       try clear hcz10_0 hcz10_1 hcz10_2 hcz10_3
       try clear hcz11_0 hcz11_1 hcz11_2 hcz11_3
       try clear hcz18_0 hcz18_1 hcz18_2 hcz18_3
       try clear hcz21_0 hcz21_1 hcz21_2 hcz21_3
       try clear hcz25_0 hcz25_1 hcz25_2
       try clear hfz10_0 hfz10_1 hfz10_2 hfz10_3
       try clear hfz11_0 hfz11_1 hfz11_2 hfz11_3
       try clear hfz18_0 hfz18_1 hfz18_2 hfz18_3
       try clear hfz21_0 hfz21_1 hfz21_2 hfz21_3
       try clear hfz25_0 hfz25_1 hfz25_2
       try clear hx260_0
       try clear hx260_1
       try clear hx260_2
       try clear hx260_3
       try clear hx264_0
       try clear hx264_1
       try clear hx264_2
       try clear hx264_3
       try clear hx265_0
       try clear hx265_1
       try clear hx265_2
       try clear hx265_3
       try clear p260
       try clear p264
       try clear p265
       try clear q260
       try clear q264
       try clear q265
       obtain ⟨x15_4, x16_4, rfl, rfl, HA, HK4, HO_6, HO_11, BK256, BK270, HB⟩ := hrel
       cases gk with
       | zero => exact absurd HA.out (by simp [spec_l08Flow.l3])
       | succ k4 =>
        have H := HA.out
        clear HA
        simp only [spec_l08Flow.l3] at H
        replace H := il_ H
        rcases H with ⟨c26b0, H⟩ | ⟨c26b0, H⟩
        ·replace H := ib_ H
         rcases H with ⟨rfl, H⟩ | ⟨rfl, H⟩
         ·have H' := Aside0.mk H
          clear H
          obtain ⟨Ao28, co28, eo28⟩ := Kd.R_slice HO_11.out
          subst eo28
          try go_wp2
          replace HO_6 := Aside0.mk (Kd.R_drew HO_6.out)
          replace HO_11 := Aside0.mk (Kd.R_drew HO_11.out)
          replace BK256 := bd_ BK256
          replace BK270 := bd_ BK270
          replace HB := be_ HB
          refine start_ (n := 11) (S := fun w' => True) (ds := []) (bv_ 11 0) (by kernel_rfl) rfl rfl trivial (fun hHeld => ?_); refine with_tabW spec_l08Flow.tab21 spec_l08Flow.bits21 (fun HT_ HW_ => ?_)
          generalize wr.drew = w29 at HO_6 HO_11 BK256 BK270 HB hHeld ⊢
          refine px_ HT_ 0 84 1 ?_
          refine px_ HT_ 1 85 3 ?_
          refine pv_ HT_ 2 (some 86) (bv_ 11 7) ?_
          refine pv_ HT_ 3 (some 87) (bv_ 11 15) ?_
          refine pv_ HT_ 4 (some 88) (bv_ 11 31) ?_
          refine pv_ HT_ 5 (some 89) (bv_ 11 63) ?_
          refine pv_ HT_ 6 (some 90) (bv_ 11 127) ?_
          refine pv_ HT_ 7 (some 91) (bv_ 11 255) ?_
          refine pv_ HT_ 8 (some 92) (bv_ 11 511) ?_
          refine px_ HT_ 9 93 1023 ?_
          refine px_ HT_ 10 15 2047 ?_
          refine done_ (done_of HT_.out (by kernel_rfl)) ?_
          try go_wp2
          go_roundg k4
          case measure => have := HK1.out; have := HK2.out; have := HK3.out; have := HK4.out; omega
          case rel => exact ⟨(true), (wrap64 (x16_4 + 1)), en_, en_, H', ⟨by have := HK1.out; have := HK2.out; have := HK3.out; have := HK4.out; omega⟩, ⟨by (with_reducible repeat (first | apply Kd.R_alloc | apply Kd.R_drewN | apply Kd.R_drew)); exact HO_6.out⟩, ⟨by (with_reducible repeat (first | apply Kd.R_alloc | apply Kd.R_drewN | apply Kd.R_drew)); exact HO_11.out⟩, bl_ BK256, bl_ BK270, bw_ HB⟩
         replace H := imn_ H
         obtain ⟨c30b0, H⟩ := H
         have H' := Aside0.mk H
         clear H
         obtain ⟨Ao31, co31, eo31⟩ := Kd.R_slice HO_11.out
         subst eo31
         try go_wp2
         replace HO_6 := Aside0.mk (Kd.R_drew HO_6.out)
         replace HO_11 := Aside0.mk (Kd.R_drew HO_11.out)
         replace BK256 := bd_ BK256
         replace BK270 := bd_ BK270
         replace HB := be_ HB
         have p271 : 0 ≤ (x16_4 : Int) := od_
         have q271 : x16_4 < (x11_3.length : Int) := od_
         obtain ⟨ad271, e271, hx271_0, hx271_1, hx271_2, hx271_3⟩ := at_T72 (Kd.R_reads' HO_11.out).2.2 x16_4 p271 q271
         cases e271
         replace p271 := eq_true p271
         replace q271 := eq_true q271
         refine start_ (n := 11) (S := fun w' => w'.cell? ⟨gb270, 0, none⟩ = some (.int .i64 t266) ∧ w'.cell? ⟨gb270, 1, none⟩ = some (.int .i64 t267) ∧ w'.cell? ⟨gb270, 2, none⟩ = some (.int .i64 t268) ∧ w'.cell? (ad271.add ((x16_4).toNat * 4)) = some (.int .i64 ((rd_T72 x11_3 x16_4).f0.f0)) ∧ w'.cell? ⟨(ad271.add ((x16_4).toNat * 4)).block, (ad271.add ((x16_4).toNat * 4)).off + 1, none⟩ = some (.int .i64 ((rd_T72 x11_3 x16_4).f0.f1)) ∧ w'.cell? ⟨(ad271.add ((x16_4).toNat * 4)).block, (ad271.add ((x16_4).toNat * 4)).off + 2, none⟩ = some (.int .i64 ((rd_T72 x11_3 x16_4).f0.f2)) ∧ w'.cell? ⟨(ad271.add ((x16_4).toNat * 4)).block, (ad271.add ((x16_4).toNat * 4)).off + 3, none⟩ = some (.int .i64 ((rd_T72 x11_3 x16_4).f1))) (ds := []) (bv_ 11 0) (by kernel_rfl) rfl rfl ⟨cz_ BK270 0, cz_ BK270 1, cz_ BK270 2, hx271_0, hx271_1, hx271_2, hx271_3⟩ (fun hHeld => ?_); refine with_tabW spec_l08Flow.tab21 spec_l08Flow.bits21 (fun HT_ HW_ => ?_)
         generalize wr.drew = w32 at HO_6 HO_11 BK256 BK270 HB hx271_0 hx271_1 hx271_2 hx271_3 hHeld ⊢
         refine px_ HT_ 0 84 1 ?_
         refine px_ HT_ 1 85 3 ?_
         refine px_ HT_ 2 86 7 ?_
         refine px_ HT_ 3 87 15 ?_
         refine px_ HT_ 4 88 31 ?_
         refine px_ HT_ 5 89 63 ?_
         refine ta_ HT_ HW_ 6 (some 90) (bv_ 11 127) hHeld ?_ (hy := by rintro w' ⟨s0, s1, s2, s3, s4, s5, s6⟩; go_simp; with_reducible rfl)
         refine ta_ HT_ HW_ 7 (some 91) (bv_ 11 255) hHeld ?_ (hy := by rintro w' ⟨s0, s1, s2, s3, s4, s5, s6⟩; go_simp; with_reducible rfl)
         refine px_ HT_ 8 92 511 ?_
         refine px_ HT_ 9 93 1023 ?_
         refine px_ HT_ 10 15 2047 ?_
         refine done_ (done_of HT_.out (by kernel_rfl)) ?_
         try go_wp2
         go_roundg k4
         case measure => have := HK1.out; have := HK2.out; have := HK3.out; have := HK4.out; omega
         case rel => exact ⟨((((rd_T72 x11_3 x16_4).f0.f0) == t266 && (((rd_T72 x11_3 x16_4).f0.f1) == t267 && (((rd_T72 x11_3 x16_4).f0.f2) == t268)))), (wrap64 (x16_4 + 1)), en_, en_, H', ⟨by have := HK1.out; have := HK2.out; have := HK3.out; have := HK4.out; omega⟩, ⟨by (with_reducible repeat (first | apply Kd.R_alloc | apply Kd.R_drewN | apply Kd.R_drew)); exact HO_6.out⟩, ⟨by (with_reducible repeat (first | apply Kd.R_alloc | apply Kd.R_drewN | apply Kd.R_drew)); exact HO_11.out⟩, bl_ BK256, bl_ BK270, bw_ HB⟩
        replace H := ib_ H
        rcases H with ⟨rfl, H⟩ | ⟨rfl, H⟩
        ·have H' := Aside0.mk H
         clear H
         obtain ⟨Ao34, co34, eo34⟩ := Kd.R_slice HO_11.out
         subst eo34
         go_wp2
         go_roundg k4
         case measure => have := HK1.out; have := HK2.out; have := HK3.out; have := HK4.out; omega
         case rel => exact ⟨(x11_3), (wrap64 (x12_3 + 1)), en_, H', ⟨by have := HK1.out; have := HK2.out; have := HK3.out; have := HK4.out; omega⟩, ⟨by (with_reducible repeat (first | apply Kd.R_alloc | apply Kd.R_drewN | apply Kd.R_drew)); exact HO_6.out⟩, ⟨by (with_reducible repeat (first | apply Kd.R_alloc | apply Kd.R_drewN | apply Kd.R_drew)); exact HO_11.out⟩, bl_ BK256, bw_ HB⟩
        replace H := oc_ H
        obtain ⟨t272, A35, H⟩ := H
        by_cases c36 : x11_3.length < 4398046511104
        ·rw [if_pos c36] at H
         have LMc36 := Aside0.mk c36
         clear c36
         obtain ⟨y273, hy273⟩ : ∃ y_ : List (S72), y_ = (x11_3 ++ [(⟨(⟨t266, t267, t268⟩ : S31), t272⟩ : S72)]) := ⟨_, rfl⟩
         replace H : (spec_l08Flow.l2 k4 a0 x6_2 x7_1 x8_2 x10_2 y273 (wrap64 (x12_3 + 1)) a1_0 a1_1 a1_2 l1_3) = some (r1, r2) := by first | (rw [hy273]; with_reducible exact H) | (have H2_ := (Option.bind_some _ _).symm.trans H; rw [hy273]; with_reducible exact H2_) | (have H2_ := (Option.bind_some _ _).symm.trans H; with_reducible exact H2_) | with_reducible exact H | (rw [hy273]; exact H) | exact H
         have Ny273 := Aside0.mk hy273
         clear hy273
         have H' := Aside0.mk H
         clear H
         obtain ⟨Ao37, co37, eo37⟩ := Kd.R_slice HO_11.out
         subst eo37
         try go_wp2
         replace HO_6 := Aside0.mk (Kd.R_drew HO_6.out)
         replace HO_11 := Aside0.mk (Kd.R_drew HO_11.out)
         replace BK256 := bd_ BK256
         replace BK270 := bd_ BK270
         replace HB := be_ HB
         refine start_ (n := 10) (S := fun w' => w'.cell? ⟨gb270, 0, none⟩ = some (.int .i64 t266) ∧ w'.cell? ⟨gb270, 1, none⟩ = some (.int .i64 t267) ∧ w'.cell? ⟨gb270, 2, none⟩ = some (.int .i64 t268) ∧ w'.cell? ⟨gb256, 0, none⟩ = some (.int .i64 a1_0) ∧ w'.cell? ⟨gb256, 1, none⟩ = some (.int .i64 a1_1) ∧ w'.cell? ⟨gb256, 2, none⟩ = some (.int .i64 a1_2) ∧ w'.cell? ⟨gb256, 3, none⟩ = some (.slice (some ad264) l1_3.length c1_3)) (ds := []) (bv_ 10 0) (by kernel_rfl) rfl rfl ⟨cz_ BK270 0, cz_ BK270 1, cz_ BK270 2, cz_ BK256 0, cz_ BK256 1, cz_ BK256 2, cz_ BK256 3⟩ (fun hHeld => ?_); refine with_tabW spec_l08Flow.tab23 spec_l08Flow.bits23 (fun HT_ HW_ => ?_)
         generalize wr.drew = w38 at HO_6 HO_11 BK256 BK270 HB hHeld ⊢
         refine px_ HT_ 0 96 1 ?_
         refine px_ HT_ 2 98 5 ?_
         refine ta_ HT_ HW_ 1 (some 97) (bv_ 10 7) hHeld ?_ (hy := by rintro w' ⟨s0, s1, s2, s3, s4, s5, s6⟩; go_simp; with_reducible rfl)
         refine ta_ HT_ HW_ 3 (some 99) (bv_ 10 15) hHeld ?_ (hy := by rintro w' ⟨s0, s1, s2, s3, s4, s5, s6⟩; go_simp; with_reducible rfl)
         refine ta_ HT_ HW_ 4 (some 100) (bv_ 10 31) hHeld ?_ (hy := by rintro w' ⟨s0, s1, s2, s3, s4, s5, s6⟩; go_simp; with_reducible rfl)
         refine on_ HT_ 5 (some 101) (bv_ 10 63) (fun K hK => ?_)
         refine gs_ Try.func54 #[.int .i64 a0, .agg #[.int .i64 a1_0, .int .i64 a1_1, .int .i64 a1_2, .slice (some ad264) l1_3.length c1_3], .agg #[.int .i64 t266, .int .i64 t267, .int .i64 t268]] ?_
         with_reducible refine (spec_l08Weight.calls k4 a0 a1_0 a1_1 a1_2 _ _ l1_3 t266 t267 t268 t272 _ ?side1 ?side2 A35.out).mono ?_
         (case side1 => exact ca_ (Kd.C_below HR1_3.out HB.out))
         (case side2 => exact HC1_3.out)
         rintro e w39 ⟨rfl, hb⟩
         refine ⟨_, rfl, ?_⟩
         replace HO_6 := rb_ HO_6 hb
         replace HO_11 := rb_ HO_11 hb
         replace BK256 := bb_ BK256 hb
         replace BK270 := bb_ BK270 hb
         replace HB := bt_ HB hb
         try clear hb
         refine hK.out _ _ ⟨cz_ BK270 0, cz_ BK270 1, cz_ BK270 2, cz_ BK256 0, cz_ BK256 1, cz_ BK256 2, cz_ BK256 3⟩ (fun hHeld => ?_)
         clear hK K
         refine nm_ (some 101) ?_
         refine px_ HT_ 6 102 127 ?_
         refine on_ HT_ 7 (some 103) (bv_ 10 255) (fun K hK => ?_)
         refine value_ (w1 := ?_) (v := ?_) (by rfl) rfl ?_ ?_
         rotate_left 2
         ·go_simp
          constructor
          ·rfl
          rfl
         refine hK.out _ _ ⟨(blk_cell (blk_alloc BK270.out _) 0).trans rfl, (blk_cell (blk_alloc BK270.out _) 1).trans rfl, (blk_cell (blk_alloc BK270.out _) 2).trans rfl, (blk_cell (blk_alloc BK256.out _) 0).trans rfl, (blk_cell (blk_alloc BK256.out _) 1).trans rfl, (blk_cell (blk_alloc BK256.out _) 2).trans rfl, (blk_cell (blk_alloc BK256.out _) 3).trans rfl⟩ (fun hHeld => ?_)
         clear hK K
         refine nm_ (some 103) ?_
         refine on_ HT_ 8 (some 104) (bv_ 10 511) (fun K hK => ?_)
         refine Kd.R_append_step k72 (w0 := w) w.heap.size (by rfl) (.tmp 96) (.tmp 103) 32 72 (.agg #[(.int .i64 0), (.int .i64 0), (.int .i64 0), (.int .i64 0)]) 32 rfl Try.underlying32 info72 rfl (by decide) (by omega) (.slice Ao37 x11_3.length co37) x11_3 (⟨(⟨t266, t267, t268⟩ : S31), t272⟩ : S72) [.int .i64 t266, .int .i64 t267, .int .i64 t268, .int .i64 t272] (fun _ => True) (fun _ => False) rfl rfl ?aP (fun _ hk => hk.elim) ?aF ?aO ?aB ?aS ?aL ?_
         (case aP => exact k72_mkM _ _ _ (⟨(⟨t266, t267, t268⟩ : S31), t272⟩ : S72))
         (case aB => exact (bw_ HB).out)
         (case aF => exact (fun _ _ => trivial))
         (case aO => exact (ra_ HO_11.out))
         (case aS => exact (below_size (bw_ HB).out))
         (case aL => have := LMc36.out; omega)
         intro v274 w40 ho hb hg hat
         rw [← Ny273.out] at ho
         have n0_ := Aside0.mk (Kd.R_over' (ra_ HO_6.out) (Kd.R_typed (ra_ HO_11.out)) (by decide) hg)
         have n1_ := Aside0.mk (blk_grown (g := gb256) (o := .cells #[.int .i64 a1_0, .int .i64 a1_1, .int .i64 a1_2, .slice (some ad264) l1_3.length c1_3] 34 (0, 0)) (bl_ BK256).out hg (Kd.R_ne HO_11.out BK256.out (by decide)))
         have n2_ := Aside0.mk (blk_grown (g := gb270) (o := .cells #[.int .i64 t266, .int .i64 t267, .int .i64 t268] 31 (0, 0)) (bl_ BK270).out hg (Kd.R_ne HO_11.out BK270.out (by decide)))
         have n3_ := Aside0.mk (hb)
         have n4_ := Aside0.mk (ho)
         clear HO_6
         clear BK256
         clear BK270
         clear HB
         clear HO_11
         have HO_6 := n0_
         have BK256 := n1_
         have BK270 := n2_
         have HB := n3_
         have HO275 := n4_
         clear n0_ n1_ n2_ n3_ n4_
         clear ho hb hg hat
         refine hK.out _ _ ⟨cz_ BK270 0, cz_ BK270 1, cz_ BK270 2, cz_ BK256 0, cz_ BK256 1, cz_ BK256 2, cz_ BK256 3⟩ (fun hHeld => ?_)
         clear hK K
         refine nm_ (some 104) ?_
         refine px_ HT_ 9 11 1023 ?_
         refine done_ (done_of HT_.out (by kernel_rfl)) ?_
         try go_wp2
         go_roundg k4
         case measure => have := HK1.out; have := HK2.out; have := HK3.out; have := HK4.out; omega
         case rel => exact ⟨(y273), (wrap64 (x12_3 + 1)), en_, H', ⟨by have := HK1.out; have := HK2.out; have := HK3.out; have := HK4.out; omega⟩, ⟨by (with_reducible repeat (first | apply Kd.R_alloc | apply Kd.R_drewN | apply Kd.R_drew)); exact HO_6.out⟩, ⟨by (with_reducible repeat (first | apply Kd.R_alloc | apply Kd.R_drewN | apply Kd.R_drew)); exact HO275.out⟩, bl_ BK256, bw_ HB⟩
        rw [if_neg c36] at H
        exact absurd H (by simp)
      simp only [Option.some.injEq, Prod.mk.injEq] at H
      obtain ⟨rfl, rfl⟩ := H
      obtain ⟨hcz41_0, hcz41_1, hcz41_2, hcz41_3, hfz41_0, hfz41_1, hfz41_2, hfz41_3⟩ := ch4_ BK256
      have p264 : 0 ≤ (x12_3 : Int) := od_
      have q264 : x12_3 < (l1_3.length : Int) := od_
      obtain ⟨ad264, e264, hx264_0, hx264_1, hx264_2, hx264_3⟩ := at_T72 HR1_3.out x12_3 p264 q264
      cases e264
      replace hx264_0 := clTr HB.out hx264_0
      replace hx264_1 := clTr HB.out hx264_1
      replace hx264_2 := clTr HB.out hx264_2
      replace hx264_3 := clTr HB.out hx264_3
      replace p264 := eq_true p264
      replace q264 := eq_true q264
      have p265 : 0 ≤ (x12_3 : Int) := od_
      have q265 : x12_3 < (l1_3.length : Int) := od_
      obtain ⟨ad265, e265, hx265_0, hx265_1, hx265_2, hx265_3⟩ := at_T72 HR1_3.out x12_3 p265 q265
      obtain rfl : ad264 = ad265 := (by injection e265)
      replace hx265_0 := clTr HB.out hx265_0
      replace hx265_1 := clTr HB.out hx265_1
      replace hx265_2 := clTr HB.out hx265_2
      replace hx265_3 := clTr HB.out hx265_3
      replace p265 := eq_true p265
      replace q265 := eq_true q265
      go_wp2_with (first | ((refine gc_ 69 ?_); refine ge_ 73 Try.func69 #[.int .i64 a0, .agg #[.int .i64 ((rd_T72 l1_3 x12_3).f0.f0), .int .i64 ((rd_T72 l1_3 x12_3).f0.f1), .int .i64 ((rd_T72 l1_3 x12_3).f0.f2)], .int .i64 x10_2] ?_; (with_reducible refine (spec_l02Up.calls k3 a0 ((rd_T72 l1_3 x12_3).f0.f0) ((rd_T72 l1_3 x12_3).f0.f1) ((rd_T72 l1_3 x12_3).f0.f2) x10_2 t266 t267 t268 false _ A19.out).mono ?_); rintro e w42 ⟨rfl, hb⟩; refine ⟨_, rfl, ?_⟩; replace HO_6 := rb_ HO_6 hb; replace HO_11 := rb_ HO_11 hb; replace BK256 := bb_ BK256 hb; replace HB := bt_ HB hb; (try clear hb)) | ((refine gd_ 13 ?_); refine bx_ 13 #[.int .i64 0, .int .i64 0, .int .i64 0] 31 ?_; intro gb270 hg w43 BK270 hb; have GW270 := bs_ HB hg; have NB256_270 := bm_ BK256 hg; have NB270_256 := bn_ BK256 hg; replace HO_6 := rb_ HO_6 hb; replace HO_11 := rb_ HO_11 hb; replace BK256 := bb_ BK256 hb; replace HB := bt_ HB hb; clear hb hg; have hnb44 := NB270_256.out; have hnc44 := NB256_270.out; obtain ⟨hcz45_0, hcz45_1, hcz45_2, hfz45_0, hfz45_1, hfz45_2⟩ := ch3_ BK270))
      go_ret2
      exact ⟨_, es_, by first | exact Kd.R_nil _ _ _ _ _ | exact Kd.N_nil _ _ _ _ _ | exact Kd.V_nil _ _ _ _ _ | exact Kd.Q_nil _ _ _ _ _ | exact Kd.S_nil _ _ _ _ _, (bw_ HB).out⟩
     replace H := oc_ H
     obtain ⟨t276, A46, H⟩ := H
     have H' := Aside0.mk H
     clear H
     obtain ⟨hcz47_0, hcz47_1, hcz47_2, hcz47_3, hfz47_0, hfz47_1, hfz47_2, hfz47_3⟩ := ch4_ BK256
     obtain ⟨Ao48, co48, eo48⟩ := Kd.R_slice HO_11.out
     subst eo48
     go_wp2_with (first | ((refine gc_ 61 ?_); refine ge_ 107 Try.func61 #[.int .i64 a0, .slice Ao48 x11_3.length co48] ?_; (with_reducible refine (spec_l08Sorted.calls k3 a0 _ _ x11_3 t276 _ ?side1 ?side2 A46.out).mono ?_); (case side1 => exact ca_ (Kd.R_reads' HO_11.out).2.2); (case side2 => exact (Kd.R_reads' HO_11.out).2.1); rintro e w49 ⟨v277, rfl, ho0, hb⟩; refine ⟨_, rfl, ?_⟩; have HO278 := Aside0.mk (Kd.R_lower (Kd.R_new' ho0 (Kd.R_lt (ra_ HO_11.out))) (below_size (bw_ HB).out)); replace HO_6 := rb_ HO_6 hb; replace HO_11 := Aside0.mk (Kd.R_elder' (ra_ HO_11.out) (Kd.R_base ho0) hb); replace BK256 := bb_ BK256 hb; replace HB := bt_ HB hb; (try clear hb); (try clear ho0)))
     go_loopg [6, 8, 17] k3 (fun kq v6 v8 v17 w' => ∃ (x6_4 : List (S63)) (x8_4 : Int) (x17_4 : Int), v8 = .int .i64 x8_4 ∧ v17 = .int .i64 x17_4 ∧ Aside0 (spec_l08Flow.l4 kq a0 x6_4 x7_1 x8_4 x10_2 t276 x17_4 a1_0 a1_1 a1_2 l1_3 = some (r1, r2)) ∧ Aside0 (kq ≤ k3) ∧ Aside0 (Kd.R k63 63 w' w.heap.size (fun _ => True) v6 x6_4) ∧ Aside0 (Kd.R k72 72 w' w.heap.size (fun _ => True) v277 t276) ∧ Aside0 (w'.heap[gb256]? = some (.cells #[.int .i64 a1_0, .int .i64 a1_1, .int .i64 a1_2, (.slice A1_3 l1_3.length c1_3)] 34 (0, 0))) ∧ Aside0 (Below w.heap.size w w'))
     case atStart => exact ⟨(x6_2), (x8_2), (0), en_, en_, H', ⟨Nat.le_refl _⟩, ⟨by (with_reducible repeat (first | apply Kd.R_alloc | apply Kd.R_drewN | apply Kd.R_drew)); exact HO_6.out⟩, ⟨by (with_reducible repeat (first | apply Kd.R_alloc | apply Kd.R_drewN | apply Kd.R_drew)); exact Kd.R_mono HO278.out (fun _ hk => trivial)⟩, bl_ BK256, bw_ HB⟩
     clear H'
     try clear c7b0
     try clear c8b0
     try clear c12b0
     try clear c15b0
     try clear c16b0
     try clear c17b0
     try clear c26b0
     try clear c30b0
     try clear c36
     try clear hcz10_0 hcz10_1 hcz10_2 hcz10_3
     try clear hcz11_0 hcz11_1 hcz11_2 hcz11_3
     try clear hcz18_0 hcz18_1 hcz18_2 hcz18_3
     try clear hcz21_0 hcz21_1 hcz21_2 hcz21_3
     try clear hcz25_0 hcz25_1 hcz25_2
     try clear hcz41_0 hcz41_1 hcz41_2 hcz41_3
     try clear hcz45_0 hcz45_1 hcz45_2
     try clear hcz47_0 hcz47_1 hcz47_2 hcz47_3
     try clear hfz10_0 hfz10_1 hfz10_2 hfz10_3
     try clear hfz11_0 hfz11_1 hfz11_2 hfz11_3
     try clear hfz18_0 hfz18_1 hfz18_2 hfz18_3
     try clear hfz21_0 hfz21_1 hfz21_2 hfz21_3
     try clear hfz25_0 hfz25_1 hfz25_2
     try clear hfz41_0 hfz41_1 hfz41_2 hfz41_3
     try clear hfz45_0 hfz45_1 hfz45_2
     try clear hfz47_0 hfz47_1 hfz47_2 hfz47_3
     try clear hx260_0
     try clear hx260_1
     try clear hx260_2
     try clear hx260_3
     try clear hx264_0
     try clear hx264_1
     try clear hx264_2
     try clear hx264_3
     try clear hx265_0
     try clear hx265_1
     try clear hx265_2
     try clear hx265_3
     try clear hx271_0
     try clear hx271_1
     try clear hx271_2
     try clear hx271_3
     try clear p260
     try clear p264
     try clear p265
     try clear p271
     try clear q260
     try clear q264
     try clear q265
     try clear q271
     obtain ⟨x6_4, x8_4, x17_4, rfl, rfl, HA, HK4, HO_6, HO_11, BK256, HB⟩ := hrel
     cases gk with
     | zero => exact absurd HA.out (by simp [spec_l08Flow.l4])
     | succ k4 =>
      have H := HA.out
      clear HA
      simp only [spec_l08Flow.l4] at H
      replace H := il_ H
      rcases H with ⟨c50b0, H⟩ | ⟨c50b0, H⟩
      ·replace H := imn_ H
       obtain ⟨c51b0, H⟩ := H
       replace H := oc_ H
       obtain ⟨t280, A52, H⟩ := H
       replace H := ib_ H
       rcases H with ⟨rfl, H⟩ | ⟨rfl, H⟩
       ·by_cases c54 : x6_4.length < 4398046511104
        ·rw [if_pos c54] at H
         have LMc54 := Aside0.mk c54
         clear c54
         obtain ⟨y283, hy283⟩ : ∃ y_ : List (S63), y_ = (x6_4 ++ [(⟨(⟨(rd_T72 t276 x17_4).f0.f0, (rd_T72 t276 x17_4).f0.f1, (rd_T72 t276 x17_4).f0.f2⟩ : S31), (rd_T72 t276 x17_4).f1⟩ : S63)]) := ⟨_, rfl⟩
         replace H : (spec_l08Flow.l4 k4 a0 y283 x7_1 x8_4 x10_2 t276 (wrap64 (x17_4 + 1)) a1_0 a1_1 a1_2 l1_3) = some (r1, r2) := by first | (rw [hy283]; with_reducible exact H) | (have H2_ := (Option.bind_some _ _).symm.trans H; rw [hy283]; with_reducible exact H2_) | (have H2_ := (Option.bind_some _ _).symm.trans H; with_reducible exact H2_) | with_reducible exact H | (rw [hy283]; exact H) | exact H
         have Ny283 := Aside0.mk hy283
         clear hy283
         have H' := Aside0.mk H
         clear H
         obtain ⟨Ao55, co55, eo55⟩ := Kd.R_slice HO_11.out
         subst eo55
         have p279 : 0 ≤ (x17_4 : Int) := od_
         have q279 : x17_4 < (t276.length : Int) := od_
         obtain ⟨ad279, e279, hx279_0, hx279_1, hx279_2, hx279_3⟩ := at_T72 (Kd.R_reads' HO_11.out).2.2 x17_4 p279 q279
         cases e279
         replace p279 := eq_true p279
         replace q279 := eq_true q279
         try go_wp2_with (first | ((refine gc_ 42 ?_); refine ge_ 119 Try.func42 #[.int .i64 ((rd_T72 t276 x17_4).f1), .int .i64 (-1000000), .int .i64 1000000] ?_; (with_reducible refine (spec_l01In.calls ((rd_T72 t276 x17_4).f1) (-1000000) 1000000 true _ A52.out).mono ?_); rintro e w' ⟨rfl, ⟨nd, rfl⟩⟩; refine ⟨_, rfl, ?_⟩))
         (try (rw [drewN_self wr]; generalize hq_ : World.drewN wr _ = wr; have n0_ : Aside0 (Kd.R k72 72 wr w.heap.size (fun _ => True) (.slice (some ad279) t276.length co55) t276) := ⟨by rw [← hq_]; exact (ra_ HO_11.out)⟩; have n1_ : Aside0 (Kd.R k63 63 wr w.heap.size (fun _ => True) u6 x6_4) := ⟨by rw [← hq_]; exact (ra_ HO_6.out)⟩; have n2_ := bq_ BK256 hq_; have n3_ := hq_' HB hq_; clear HO_11 HO_6 BK256 HB hq_; have HO_11 := n0_; have HO_6 := n1_; have BK256 := n2_; have HB := n3_; clear n0_ n1_ n2_ n3_))
         replace HO_6 := Aside0.mk (Kd.R_drew HO_6.out)
         replace HO_11 := Aside0.mk (Kd.R_drew HO_11.out)
         replace BK256 := bd_ BK256
         replace HB := be_ HB
         have p281 : 0 ≤ (x17_4 : Int) := od_
         have q281 : x17_4 < (t276.length : Int) := od_
         obtain ⟨ad281, e281, hx281_0, hx281_1, hx281_2, hx281_3⟩ := at_T72 (Kd.R_reads' HO_11.out).2.2 x17_4 p281 q281
         obtain rfl : ad279 = ad281 := (by injection e281)
         replace p281 := eq_true p281
         replace q281 := eq_true q281
         have p282 : 0 ≤ (x17_4 : Int) := od_
         have q282 : x17_4 < (t276.length : Int) := od_
         obtain ⟨ad282, e282, hx282_0, hx282_1, hx282_2, hx282_3⟩ := at_T72 (Kd.R_reads' HO_11.out).2.2 x17_4 p282 q282
         obtain rfl : ad279 = ad282 := (by injection e282)
         replace p282 := eq_true p282
         replace q282 := eq_true q282
         refine start_ (n := 15) (S := fun w' => w'.cell? (ad279.add ((x17_4).toNat * 4)) = some (.int .i64 ((rd_T72 t276 x17_4).f0.f0)) ∧ w'.cell? ⟨(ad279.add ((x17_4).toNat * 4)).block, (ad279.add ((x17_4).toNat * 4)).off + 1, none⟩ = some (.int .i64 ((rd_T72 t276 x17_4).f0.f1)) ∧ w'.cell? ⟨(ad279.add ((x17_4).toNat * 4)).block, (ad279.add ((x17_4).toNat * 4)).off + 2, none⟩ = some (.int .i64 ((rd_T72 t276 x17_4).f0.f2)) ∧ w'.cell? ⟨(ad279.add ((x17_4).toNat * 4)).block, (ad279.add ((x17_4).toNat * 4)).off + 3, none⟩ = some (.int .i64 ((rd_T72 t276 x17_4).f1)) ∧ w'.cell? (ad279.add ((x17_4).toNat * 4)) = some (.int .i64 ((rd_T72 t276 x17_4).f0.f0)) ∧ w'.cell? ⟨(ad279.add ((x17_4).toNat * 4)).block, (ad279.add ((x17_4).toNat * 4)).off + 1, none⟩ = some (.int .i64 ((rd_T72 t276 x17_4).f0.f1)) ∧ w'.cell? ⟨(ad279.add ((x17_4).toNat * 4)).block, (ad279.add ((x17_4).toNat * 4)).off + 2, none⟩ = some (.int .i64 ((rd_T72 t276 x17_4).f0.f2)) ∧ w'.cell? ⟨(ad279.add ((x17_4).toNat * 4)).block, (ad279.add ((x17_4).toNat * 4)).off + 3, none⟩ = some (.int .i64 ((rd_T72 t276 x17_4).f1))) (ds := [12, 13]) (bv_ 15 0) (by kernel_rfl) rfl rfl ⟨hx281_0, hx281_1, hx281_2, hx281_3, hx282_0, hx282_1, hx282_2, hx282_3⟩ (fun hHeld => ?_); refine with_tabW spec_l08Flow.tab30 spec_l08Flow.bits30 (fun HT_ HW_ => ?_)
         generalize wr.drew = w56 at HO_6 HO_11 BK256 HB hx281_0 hx281_1 hx281_2 hx281_3 hx282_0 hx282_1 hx282_2 hx282_3 hHeld ⊢
         refine px_ HT_ 0 121 1 ?_
         refine px_ HT_ 1 122 3 ?_
         refine px_ HT_ 2 123 7 ?_
         refine px_ HT_ 3 124 15 ?_
         refine px_ HT_ 4 125 31 ?_
         refine px_ HT_ 6 127 95 ?_
         refine px_ HT_ 7 128 223 ?_
         refine px_ HT_ 8 129 479 ?_
         refine px_ HT_ 9 130 991 ?_
         refine ta_ HT_ HW_ 5 (some 126) (bv_ 15 1023) hHeld ?_ (hy := by rintro w' ⟨s0, s1, s2, s3, s4, s5, s6, s7⟩; go_simp; with_reducible rfl)
         refine ta_ HT_ HW_ 10 (some 131) (bv_ 15 2047) hHeld ?_ (hy := by rintro w' ⟨s0, s1, s2, s3, s4, s5, s6, s7⟩; go_simp; with_reducible rfl)
         refine px_ HT_ 11 132 4095 ?_
         refine last_ (i := 12) (N := some 133) (bv_ 15 8191) rfl rfl (one_of HT_.out (by kernel_rfl)) (by decide) (fun K hK => ?_)
         refine value_ (w1 := ?_) (v := ?_) (by rfl) rfl ?_ ?_
         rotate_left 2
         ·go_simp
          constructor
          ·rfl
          rfl
         refine hK.out _ _ ?_
         clear hK K
         refine nm_ (some 133) ?_
         refine last_ (i := 13) (N := some 134) (bv_ 15 16383) rfl rfl (one_of HT_.out (by kernel_rfl)) (by decide) (fun K hK => ?_)
         refine Kd.R_append_step k63 (w0 := w) w.heap.size (by rfl) (.tmp 121) (.tmp 133) 28 63 (.agg #[(.int .i64 0), (.int .i64 0), (.int .i64 0), (.int .i64 0)]) 32 rfl Try.underlying28 info63 rfl (by decide) (by omega) u6 x6_4 (⟨(⟨(rd_T72 t276 x17_4).f0.f0, (rd_T72 t276 x17_4).f0.f1, (rd_T72 t276 x17_4).f0.f2⟩ : S31), (rd_T72 t276 x17_4).f1⟩ : S63) [.int .i64 ((rd_T72 t276 x17_4).f0.f0), .int .i64 ((rd_T72 t276 x17_4).f0.f1), .int .i64 ((rd_T72 t276 x17_4).f0.f2), .int .i64 ((rd_T72 t276 x17_4).f1)] (fun _ => True) (fun _ => False) rfl rfl ?aP (fun _ hk => hk.elim) ?aF ?aO ?aB ?aS ?aL ?_
         (case aP => exact k63_mkM _ _ _ (⟨(⟨(rd_T72 t276 x17_4).f0.f0, (rd_T72 t276 x17_4).f0.f1, (rd_T72 t276 x17_4).f0.f2⟩ : S31), (rd_T72 t276 x17_4).f1⟩ : S63))
         (case aB => exact (bw_ HB).out)
         (case aF => exact (fun _ _ => trivial))
         (case aO => exact (ra_ HO_6.out))
         (case aS => exact (below_size (bw_ HB).out))
         (case aL => have := LMc54.out; omega)
         intro v284 w57 ho hb hg hat
         rw [← Ny283.out] at ho
         have n0_ := Aside0.mk (Kd.R_over' (ra_ HO_11.out) (Kd.R_typed (ra_ HO_6.out)) (by decide) hg)
         have n1_ := Aside0.mk (blk_grown (g := gb256) (o := .cells #[.int .i64 a1_0, .int .i64 a1_1, .int .i64 a1_2, .slice A1_3 l1_3.length c1_3] 34 (0, 0)) (bl_ BK256).out hg (Kd.R_ne HO_6.out BK256.out (by decide)))
         have n2_ := Aside0.mk (hb)
         have n3_ := Aside0.mk (ho)
         clear HO_11
         clear BK256
         clear HB
         clear HO_6
         have HO_11 := n0_
         have BK256 := n1_
         have HB := n2_
         have HO285 := n3_
         clear n0_ n1_ n2_ n3_
         clear ho hb hg hat
         refine hK.out _ _ ?_
         clear hK K
         refine nm_ (some 134) ?_
         refine px_ HT_ 14 6 32767 ?_
         refine done_ (done_of HT_.out (by kernel_rfl)) ?_
         try go_wp2
         go_roundg k4
         case measure => have := HK1.out; have := HK2.out; have := HK3.out; have := HK4.out; omega
         case rel => exact ⟨(y283), (x8_4), (wrap64 (x17_4 + 1)), en_, en_, H', ⟨by have := HK1.out; have := HK2.out; have := HK3.out; have := HK4.out; omega⟩, ⟨by (with_reducible repeat (first | apply Kd.R_alloc | apply Kd.R_drewN | apply Kd.R_drew)); exact HO285.out⟩, ⟨by (with_reducible repeat (first | apply Kd.R_alloc | apply Kd.R_drewN | apply Kd.R_drew)); exact HO_11.out⟩, bl_ BK256, bw_ HB⟩
        rw [if_neg c54] at H
        exact absurd H (by simp)
       by_cases c58 : x6_4.length < 4398046511104
       ·rw [if_pos c58] at H
        have LMc58 := Aside0.mk c58
        clear c58
        obtain ⟨y288, hy288⟩ : ∃ y_ : List (S63), y_ = (x6_4 ++ [(⟨(⟨(rd_T72 t276 x17_4).f0.f0, (rd_T72 t276 x17_4).f0.f1, (rd_T72 t276 x17_4).f0.f2⟩ : S31), (rd_T72 t276 x17_4).f1⟩ : S63)]) := ⟨_, rfl⟩
        replace H : (spec_l08Flow.l4 k4 a0 y288 x7_1 3 x10_2 t276 (wrap64 (x17_4 + 1)) a1_0 a1_1 a1_2 l1_3) = some (r1, r2) := by first | (rw [hy288]; with_reducible exact H) | (have H2_ := (Option.bind_some _ _).symm.trans H; rw [hy288]; with_reducible exact H2_) | (have H2_ := (Option.bind_some _ _).symm.trans H; with_reducible exact H2_) | with_reducible exact H | (rw [hy288]; exact H) | exact H
        have Ny288 := Aside0.mk hy288
        clear hy288
        have H' := Aside0.mk H
        clear H
        obtain ⟨Ao59, co59, eo59⟩ := Kd.R_slice HO_11.out
        subst eo59
        have p279 : 0 ≤ (x17_4 : Int) := od_
        have q279 : x17_4 < (t276.length : Int) := od_
        obtain ⟨ad279, e279, hx279_0, hx279_1, hx279_2, hx279_3⟩ := at_T72 (Kd.R_reads' HO_11.out).2.2 x17_4 p279 q279
        cases e279
        replace p279 := eq_true p279
        replace q279 := eq_true q279
        try go_wp2_with (first | ((refine gc_ 42 ?_); refine ge_ 119 Try.func42 #[.int .i64 ((rd_T72 t276 x17_4).f1), .int .i64 (-1000000), .int .i64 1000000] ?_; (with_reducible refine (spec_l01In.calls ((rd_T72 t276 x17_4).f1) (-1000000) 1000000 false _ A52.out).mono ?_); rintro e w' ⟨rfl, ⟨nd, rfl⟩⟩; refine ⟨_, rfl, ?_⟩))
        (try (rw [drewN_self wr]; generalize hq_ : World.drewN wr _ = wr; have n0_ : Aside0 (Kd.R k72 72 wr w.heap.size (fun _ => True) (.slice (some ad279) t276.length co59) t276) := ⟨by rw [← hq_]; exact (ra_ HO_11.out)⟩; have n1_ : Aside0 (Kd.R k63 63 wr w.heap.size (fun _ => True) u6 x6_4) := ⟨by rw [← hq_]; exact (ra_ HO_6.out)⟩; have n2_ := bq_ BK256 hq_; have n3_ := hq_' HB hq_; clear HO_11 HO_6 BK256 HB hq_; have HO_11 := n0_; have HO_6 := n1_; have BK256 := n2_; have HB := n3_; clear n0_ n1_ n2_ n3_))
        replace HO_6 := Aside0.mk (Kd.R_drew HO_6.out)
        replace HO_11 := Aside0.mk (Kd.R_drew HO_11.out)
        replace BK256 := bd_ BK256
        replace HB := be_ HB
        have p286 : 0 ≤ (x17_4 : Int) := od_
        have q286 : x17_4 < (t276.length : Int) := od_
        obtain ⟨ad286, e286, hx286_0, hx286_1, hx286_2, hx286_3⟩ := at_T72 (Kd.R_reads' HO_11.out).2.2 x17_4 p286 q286
        obtain rfl : ad279 = ad286 := (by injection e286)
        replace p286 := eq_true p286
        replace q286 := eq_true q286
        have p287 : 0 ≤ (x17_4 : Int) := od_
        have q287 : x17_4 < (t276.length : Int) := od_
        obtain ⟨ad287, e287, hx287_0, hx287_1, hx287_2, hx287_3⟩ := at_T72 (Kd.R_reads' HO_11.out).2.2 x17_4 p287 q287
        obtain rfl : ad279 = ad287 := (by injection e287)
        replace p287 := eq_true p287
        replace q287 := eq_true q287
        refine start_ (n := 15) (S := fun w' => w'.cell? (ad279.add ((x17_4).toNat * 4)) = some (.int .i64 ((rd_T72 t276 x17_4).f0.f0)) ∧ w'.cell? ⟨(ad279.add ((x17_4).toNat * 4)).block, (ad279.add ((x17_4).toNat * 4)).off + 1, none⟩ = some (.int .i64 ((rd_T72 t276 x17_4).f0.f1)) ∧ w'.cell? ⟨(ad279.add ((x17_4).toNat * 4)).block, (ad279.add ((x17_4).toNat * 4)).off + 2, none⟩ = some (.int .i64 ((rd_T72 t276 x17_4).f0.f2)) ∧ w'.cell? ⟨(ad279.add ((x17_4).toNat * 4)).block, (ad279.add ((x17_4).toNat * 4)).off + 3, none⟩ = some (.int .i64 ((rd_T72 t276 x17_4).f1)) ∧ w'.cell? (ad279.add ((x17_4).toNat * 4)) = some (.int .i64 ((rd_T72 t276 x17_4).f0.f0)) ∧ w'.cell? ⟨(ad279.add ((x17_4).toNat * 4)).block, (ad279.add ((x17_4).toNat * 4)).off + 1, none⟩ = some (.int .i64 ((rd_T72 t276 x17_4).f0.f1)) ∧ w'.cell? ⟨(ad279.add ((x17_4).toNat * 4)).block, (ad279.add ((x17_4).toNat * 4)).off + 2, none⟩ = some (.int .i64 ((rd_T72 t276 x17_4).f0.f2)) ∧ w'.cell? ⟨(ad279.add ((x17_4).toNat * 4)).block, (ad279.add ((x17_4).toNat * 4)).off + 3, none⟩ = some (.int .i64 ((rd_T72 t276 x17_4).f1))) (ds := [12, 13]) (bv_ 15 0) (by kernel_rfl) rfl rfl ⟨hx286_0, hx286_1, hx286_2, hx286_3, hx287_0, hx287_1, hx287_2, hx287_3⟩ (fun hHeld => ?_); refine with_tabW spec_l08Flow.tab30 spec_l08Flow.bits30 (fun HT_ HW_ => ?_)
        generalize wr.drew = w60 at HO_6 HO_11 BK256 HB hx286_0 hx286_1 hx286_2 hx286_3 hx287_0 hx287_1 hx287_2 hx287_3 hHeld ⊢
        refine px_ HT_ 0 121 1 ?_
        refine px_ HT_ 1 122 3 ?_
        refine px_ HT_ 2 123 7 ?_
        refine px_ HT_ 3 124 15 ?_
        refine px_ HT_ 4 125 31 ?_
        refine px_ HT_ 6 127 95 ?_
        refine px_ HT_ 7 128 223 ?_
        refine px_ HT_ 8 129 479 ?_
        refine px_ HT_ 9 130 991 ?_
        refine ta_ HT_ HW_ 5 (some 126) (bv_ 15 1023) hHeld ?_ (hy := by rintro w' ⟨s0, s1, s2, s3, s4, s5, s6, s7⟩; go_simp; with_reducible rfl)
        refine ta_ HT_ HW_ 10 (some 131) (bv_ 15 2047) hHeld ?_ (hy := by rintro w' ⟨s0, s1, s2, s3, s4, s5, s6, s7⟩; go_simp; with_reducible rfl)
        refine px_ HT_ 11 132 4095 ?_
        refine last_ (i := 12) (N := some 133) (bv_ 15 8191) rfl rfl (one_of HT_.out (by kernel_rfl)) (by decide) (fun K hK => ?_)
        refine value_ (w1 := ?_) (v := ?_) (by rfl) rfl ?_ ?_
        rotate_left 2
        ·go_simp
         constructor
         ·rfl
         rfl
        refine hK.out _ _ ?_
        clear hK K
        refine nm_ (some 133) ?_
        refine last_ (i := 13) (N := some 134) (bv_ 15 16383) rfl rfl (one_of HT_.out (by kernel_rfl)) (by decide) (fun K hK => ?_)
        refine Kd.R_append_step k63 (w0 := w) w.heap.size (by rfl) (.tmp 121) (.tmp 133) 28 63 (.agg #[(.int .i64 0), (.int .i64 0), (.int .i64 0), (.int .i64 0)]) 32 rfl Try.underlying28 info63 rfl (by decide) (by omega) u6 x6_4 (⟨(⟨(rd_T72 t276 x17_4).f0.f0, (rd_T72 t276 x17_4).f0.f1, (rd_T72 t276 x17_4).f0.f2⟩ : S31), (rd_T72 t276 x17_4).f1⟩ : S63) [.int .i64 ((rd_T72 t276 x17_4).f0.f0), .int .i64 ((rd_T72 t276 x17_4).f0.f1), .int .i64 ((rd_T72 t276 x17_4).f0.f2), .int .i64 ((rd_T72 t276 x17_4).f1)] (fun _ => True) (fun _ => False) rfl rfl ?aP (fun _ hk => hk.elim) ?aF ?aO ?aB ?aS ?aL ?_
        (case aP => exact k63_mkM _ _ _ (⟨(⟨(rd_T72 t276 x17_4).f0.f0, (rd_T72 t276 x17_4).f0.f1, (rd_T72 t276 x17_4).f0.f2⟩ : S31), (rd_T72 t276 x17_4).f1⟩ : S63))
        (case aB => exact (bw_ HB).out)
        (case aF => exact (fun _ _ => trivial))
        (case aO => exact (ra_ HO_6.out))
        (case aS => exact (below_size (bw_ HB).out))
        (case aL => have := LMc58.out; omega)
        intro v289 w61 ho hb hg hat
        rw [← Ny288.out] at ho
        have n0_ := Aside0.mk (Kd.R_over' (ra_ HO_11.out) (Kd.R_typed (ra_ HO_6.out)) (by decide) hg)
        have n1_ := Aside0.mk (blk_grown (g := gb256) (o := .cells #[.int .i64 a1_0, .int .i64 a1_1, .int .i64 a1_2, .slice A1_3 l1_3.length c1_3] 34 (0, 0)) (bl_ BK256).out hg (Kd.R_ne HO_6.out BK256.out (by decide)))
        have n2_ := Aside0.mk (hb)
        have n3_ := Aside0.mk (ho)
        clear HO_11
        clear BK256
        clear HB
        clear HO_6
        have HO_11 := n0_
        have BK256 := n1_
        have HB := n2_
        have HO290 := n3_
        clear n0_ n1_ n2_ n3_
        clear ho hb hg hat
        refine hK.out _ _ ?_
        clear hK K
        refine nm_ (some 134) ?_
        refine px_ HT_ 14 6 32767 ?_
        refine done_ (done_of HT_.out (by kernel_rfl)) ?_
        try go_wp2
        go_roundg k4
        case measure => have := HK1.out; have := HK2.out; have := HK3.out; have := HK4.out; omega
        case rel => exact ⟨(y288), (3), (wrap64 (x17_4 + 1)), en_, en_, H', ⟨by have := HK1.out; have := HK2.out; have := HK3.out; have := HK4.out; omega⟩, ⟨by (with_reducible repeat (first | apply Kd.R_alloc | apply Kd.R_drewN | apply Kd.R_drew)); exact HO290.out⟩, ⟨by (with_reducible repeat (first | apply Kd.R_alloc | apply Kd.R_drewN | apply Kd.R_drew)); exact HO_11.out⟩, bl_ BK256, bw_ HB⟩
       rw [if_neg c58] at H
       exact absurd H (by simp)
      have H' := Aside0.mk H
      clear H
      obtain ⟨Ao62, co62, eo62⟩ := Kd.R_slice HO_11.out
      subst eo62
      go_wp2
      go_roundg k4
      case measure => have := HK1.out; have := HK2.out; have := HK3.out; have := HK4.out; omega
      case rel => exact ⟨(x6_4), (x8_4), (wrap64 (x10_2 + 1)), en_, en_, H', ⟨by have := HK1.out; have := HK2.out; have := HK3.out; have := HK4.out; omega⟩, ⟨by (with_reducible repeat (first | apply Kd.R_alloc | apply Kd.R_drewN | apply Kd.R_drew)); exact HO_6.out⟩, bl_ BK256, bw_ HB⟩
   simp only [Option.some.injEq, Prod.mk.injEq] at H
   obtain ⟨rfl, rfl⟩ := H
   go_wp2
   go_ret2
   exact ⟨_, es_, by (with_reducible repeat (first | apply Kd.R_alloc | apply Kd.R_drewN | apply Kd.R_drew)); exact HO_6.out, (bw_ HB).out⟩
end Go.Proofs.Ytdfcoebadjhjlaa.QI
