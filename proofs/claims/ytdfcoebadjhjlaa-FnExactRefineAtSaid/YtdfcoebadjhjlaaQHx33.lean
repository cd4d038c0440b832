import Derived.Test.YtdfcoebadjhjlaaQHx7
import Derived.Test.YtdfcoebadjhjlaaQHx22
import Derived.Test.YtdfcoebadjhjlaaQHx31
import Derived.Test.YtdfcoebadjhjlaaQHx24
namespace Go.Proofs.Ytdfcoebadjhjlaa.QH
set_option maxHeartbeats 8000000
set_option maxRecDepth 100000
open Go.RowKit Go.Proofs.YtdfcoebadjhjlaaW.PrintWords Go.Proofs.YtdfcoebadjhjlaaW.PrintLast Go.Proofs.YtdfcoebadjhjlaaW.PrintMore
attribute [local go_sem] isSome_setCell max2_int min2_int max_two min_two max_three min_three max_four min_four
set_option linter.unusedVariables false
set_option linter.unusedSimpArgs false

/-! ### spec_l08Told: function 43 -/
def spec_l08Told.l0 : Nat → Int → List (S72) → Int → Int → Int → Int → Option (Int × Int × Int × (List (S72)) × Int)
 | 0, _, _, _, _, _, _ => none
 | k + 1, x0, x2, x8, x271000, x271001, x271002 => if x8 < (x2.length : Int) then (if 0 ≤ x8 then ((spec_l01In.f ((rd_T72 x2 x8).f1) (-1000000) 1000000).bind fun t273 => (if t273 = true then (spec_l08Told.l0 k x0 x2 (wrap64 (x8 + 1)) x271000 x271001 x271002) else (some (0, 0, 0, ([] : List (S72)), 3)))) else (none)) else ((spec_l08Sorted.f k x0 x2).bind fun t274 => (some (x271000, x271001, x271002, t274, 0)))
def spec_l08Told.f (k : Nat) (a0 a1_0 a1_1 a1_2 : Int) (l2 : List (S72)) : Option (Int × Int × Int × (List (S72)) × Int) := if (l2.length : Int) > 64 then (some (0, 0, 0, ([] : List (S72)), 3)) else (spec_l08Told.l0 k a0 l2 0 a1_0 a1_1 a1_2)
theorem spec_l08Told.calls (k : Nat) (a0 a1_0 a1_1 a1_2 : Int) (A2 : Option Addr) (c2 : Nat) (l2 : List (S72)) (r1 r2 r3 : Int) (r4 : List (S72)) (r5 : Int) (w : World) (hr2 : Kd.C k72 w A2 l2.length l2) (hc2 : l2.length ≤ c2) (h : spec_l08Told.f k a0 a1_0 a1_1 a1_2 l2 = some (r1, r2, r3, r4, r5)) :
  Calls Try.prog 43 #[.int .i64 a0, .agg #[.int .i64 a1_0, .int .i64 a1_1, .int .i64 a1_2], .slice A2 l2.length c2] w fun e w' => ∃ v3_ : Value, e = .returned (.tuple #[.agg #[.int .i64 r1, .int .i64 r2, .int .i64 r3, v3_], .int .i64 r5]) ∧ Kd.R k72 72 w' w.heap.size (fun _ => True) v3_ r4 ∧ Below w.heap.size w w' := by
 have hu31 := Try.underlying31
 have hu34 := Try.underlying34
 have hu72 := Try.underlying72
 have HR2 := Aside0.mk hr2
 have HC2 := Aside0.mk hc2
 clear hr2 hc2
 have HB := Aside0.mk (Below.refl w.heap.size w)
 unfold spec_l08Told.f at h
 have H := h
 clear h
 by_cases c4 : (l2.length : Int) > 64
 ·rw [if_pos c4] at H
  have c4b0 : decide (64 < (l2.length : Int)) = true := decide_eq_true c4
  have c4b1 : decide (64 < l2.length) = true := decide_eq_true (by omega)
  clear c4
  simp only [Option.some.injEq, Prod.mk.injEq] at H
  obtain ⟨rfl, rfl, rfl, rfl, rfl⟩ := H
  go_enter Try.func43, Try.ntmps43
  go_wp2_with (first | ((refine gd_ 4 ?_); refine by_ 4 #[.int .i64 a1_0, .int .i64 a1_1, .int .i64 a1_2] 31 HB ?_; intro gb270 hg w5 BK270 hb GW270 HB_; replace HB := HB_; clear hb hg) | ((refine gd_ 6 ?_); refine by_ 6 #[.int .i64 0, .int .i64 0, .int .i64 0, .slice none 0 0] 34 HB ?_; intro gb271 hg w6 BK271 hb GW271 HB_; have NB270_271 := bm_ BK270 hg; have NB271_270 := bn_ BK270 hg; replace BK270 := bb_ BK270 hb; replace HB := HB_; clear hb hg; have hnb7 := NB271_270.out; have hnc7 := NB270_271.out; obtain ⟨hcz8_0, hcz8_1, hcz8_2, hcz8_3, hfz8_0, hfz8_1, hfz8_2, hfz8_3⟩ := ch4_ BK271))
  refine bodyPost_ret (results_ct rfl _ _ gb271 34 #[.int .i64 0, .int .i64 0, .int .i64 0, .slice none 0 0] (0, 0) _ rfl (bp_ BK271).out Try.underlying34 rfl (by kernel_rfl)) rfl ?_
  exact ⟨_, es_, by first | exact Kd.R_nil _ _ _ _ _ | exact Kd.N_nil _ _ _ _ _ | exact Kd.V_nil _ _ _ _ _ | exact Kd.Q_nil _ _ _ _ _ | exact Kd.S_nil _ _ _ _ _, (bw_ HB).out⟩
 rw [if_neg c4] at H
 have c4b0 : decide (64 < (l2.length : Int)) = false := decide_eq_false c4
 have c4b1 : decide (64 < l2.length) = false := decide_eq_false (by omega)
 clear c4
 have H' := Aside0.mk H
 clear H
 go_enter Try.func43, Try.ntmps43
 go_wp2_with (first | ((refine gd_ 4 ?_); refine by_ 4 #[.int .i64 a1_0, .int .i64 a1_1, .int .i64 a1_2] 31 HB ?_; intro gb270 hg w9 BK270 hb GW270 HB_; replace HB := HB_; clear hb hg) | ((refine gd_ 6 ?_); refine by_ 6 #[.int .i64 0, .int .i64 0, .int .i64 0, .slice none 0 0] 34 HB ?_; intro gb271 hg w10 BK271 hb GW271 HB_; have NB270_271 := bm_ BK270 hg; have NB271_270 := bn_ BK270 hg; replace BK270 := bb_ BK270 hb; replace HB := HB_; clear hb hg))
 go_loopg [8] k (fun kq v8 w' => ∃ (x8_1 : Int) (x272000_1 : Int) (x272001_1 : Int) (x272002_1 : Int), v8 = .int .i64 x8_1 ∧ Aside0 (spec_l08Told.l0 kq a0 l2 x8_1 a1_0 a1_1 a1_2 = some (r1, r2, r3, r4, r5)) ∧ Aside0 (kq ≤ k) ∧ Aside0 (w'.heap[gb270]? = some (.cells #[.int .i64 a1_0, .int .i64 a1_1, .int .i64 a1_2] 31 (0, 0))) ∧ Aside0 (w'.heap[gb271]? = some (.cells #[.int .i64 x272000_1, .int .i64 x272001_1, .int .i64 x272002_1, (.slice none 0 0)] 34 (0, 0))) ∧ Aside0 (Below w.heap.size w w'))
 case atStart => exact ⟨(0), (0), (0), (0), en_, H', ⟨Nat.le_refl _⟩, bl_ BK270, bl_ BK271, bw_ HB⟩
 clear H'
 try clear c2
 try clear c4
 try clear c4b0
 try clear c4b1
 try clear hcz8_0 hcz8_1 hcz8_2 hcz8_3
 try clear hfz8_0 hfz8_1 hfz8_2 hfz8_3
 obtain ⟨x8_1, x272000_1, x272001_1, x272002_1, rfl, HA, HK1, BK270, BK271, HB⟩ := hrel
 cases gk with
 | zero => exact absurd HA.out (by simp [spec_l08Told.l0])
 | succ k1 =>
  have H := HA.out
  clear HA
  simp only [spec_l08Told.l0] at H
  replace H := il_ H
  rcases H with ⟨c11b0, H⟩ | ⟨c11b0, H⟩
  ·replace H := imn_ H
   obtain ⟨c12b0, H⟩ := H
   replace H := oc_ H
   obtain ⟨t273, A13, H⟩ := H
   replace H := ib_ H
   rcases H with ⟨rfl, H⟩ | ⟨rfl, H⟩
   ·have H' := Aside0.mk H
    clear H
    have p272 : 0 ≤ (x8_1 : Int) := od_
    have q272 : x8_1 < (l2.length : Int) := od_
    obtain ⟨ad272, e272, hx272_0, hx272_1, hx272_2, hx272_3⟩ := at_T72 HR2.out x8_1 p272 q272
    cases e272
    replace hx272_0 := clTr HB.out hx272_0
    replace hx272_1 := clTr HB.out hx272_1
    replace hx272_2 := clTr HB.out hx272_2
    replace hx272_3 := clTr HB.out hx272_3
    replace p272 := eq_true p272
    replace q272 := eq_true q272
    go_wp2_with (first | ((refine gc_ 42 ?_); refine ge_ 24 Try.func42 #[.int .i64 ((rd_T72 l2 x8_1).f1), .int .i64 (-1000000), .int .i64 1000000] ?_; (with_reducible refine (spec_l01In.calls ((rd_T72 l2 x8_1).f1) (-1000000) 1000000 true _ A13.out).mono ?_); rintro e w' ⟨rfl, ⟨nd, rfl⟩⟩; refine ⟨_, rfl, ?_⟩))
    go_roundg k1
    case measure => have := HK1.out; omega
    case rel => exact ⟨(wrap64 (x8_1 + 1)), (x272000_1), (x272001_1), (x272002_1), en_, H', ⟨by have := HK1.out; omega⟩, bl_ BK270, bl_ BK271, bw_ HB⟩
   simp only [Option.some.injEq, Prod.mk.injEq] at H
   obtain ⟨rfl, rfl, rfl, rfl, rfl⟩ := H
   have p272 : 0 ≤ (x8_1 : Int) := od_
   have q272 : x8_1 < (l2.length : Int) := od_
   obtain ⟨ad272, e272, hx272_0, hx272_1, hx272_2, hx272_3⟩ := at_T72 HR2.out x8_1 p272 q272
   cases e272
   replace hx272_0 := clTr HB.out hx272_0
   replace hx272_1 := clTr HB.out hx272_1
   replace hx272_2 := clTr HB.out hx272_2
   replace hx272_3 := clTr HB.out hx272_3
   replace p272 := eq_true p272
   replace q272 := eq_true q272
   go_wp2_with (first | ((refine gc_ 42 ?_); refine ge_ 24 Try.func42 #[.int .i64 ((rd_T72 l2 x8_1).f1), .int .i64 (-1000000), .int .i64 1000000] ?_; (with_reducible refine (spec_l01In.calls ((rd_T72 l2 x8_1).f1) (-1000000) 1000000 false _ A13.out).mono ?_); rintro e w' ⟨rfl, ⟨nd, rfl⟩⟩; refine ⟨_, rfl, ?_⟩; (try (rw [drewN_self wr]; generalize hq_ : World.drewN wr _ = wr; replace BK270 := bq_ BK270 hq_; replace BK271 := bq_ BK271 hq_; replace HB := hq_' HB hq_; clear hq_)); have hnb15 := NB271_270.out; have hnc15 := NB270_271.out; obtain ⟨hcz16_0, hcz16_1, hcz16_2, hcz16_3, hfz16_0, hfz16_1, hfz16_2, hfz16_3⟩ := ch4_ BK271))
   refine bodyPost_ret (results_ct rfl _ _ gb271 34 #[.int .i64 0, .int .i64 0, .int .i64 0, .slice none 0 0] (0, 0) _ rfl (bp_ BK271).out Try.underlying34 rfl (by kernel_rfl)) rfl ?_
   exact ⟨_, es_, by first | exact Kd.R_nil _ _ _ _ _ | exact Kd.N_nil _ _ _ _ _ | exact Kd.V_nil _ _ _ _ _ | exact Kd.Q_nil _ _ _ _ _ | exact Kd.S_nil _ _ _ _ _, (bw_ HB).out⟩
  replace H := oc_ H
  obtain ⟨t274, A17, H⟩ := H
  simp only [Option.some.injEq, Prod.mk.injEq] at H
  obtain ⟨rfl, rfl, rfl, rfl, rfl⟩ := H
  try go_wp2
  replace BK270 := bd_ BK270
  replace BK271 := bd_ BK271
  replace HB := be_ HB
  refine start_ (n := 7) (S := fun w' => w'.cell? ⟨gb270, 0, none⟩ = some (.int .i64 a1_0) ∧ w'.cell? ⟨gb270, 1, none⟩ = some (.int .i64 a1_1) ∧ w'.cell? ⟨gb270, 2, none⟩ = some (.int .i64 a1_2)) (ds := []) (bv_ 7 0) (by kernel_rfl) rfl rfl ⟨cz_ BK270 0, cz_ BK270 1, cz_ BK270 2⟩ (fun hHeld => ?_)
  generalize wr.drew = w18 at BK270 BK271 HB hHeld ⊢
  refine pure_ (i := 1) (N := some 28) (v := ?_) (a' := ?_) (bv_ 7 2) rfl rfl (by kernel_rfl) (fun _ _ _ h => h) (Or.inl ⟨by rfl, ?_⟩) ?_ ?_
  rotate_left
  ·intro w'
   go_simp
   with_reducible rfl
  rotate_left
  ·simp only [Act.put, lstS, lstZ, lstC, i64_w, i32_w]
   rfl
  refine pure_ (i := 2) (N := some 29) (v := ?_) (a' := ?_) (bv_ 7 6) rfl rfl (by kernel_rfl) (fun _ _ _ h => h) (Or.inl ⟨by rfl, ?_⟩) ?_ ?_
  rotate_left
  ·intro w'
   go_simp
   with_reducible rfl
  rotate_left
  ·simp only [Act.put, lstS, lstZ, lstC, i64_w, i32_w]
   rfl
  refine take_ (i := 0) (N := some 27) (v := ?_) (a' := ?_) (bv_ 7 7) rfl rfl (by kernel_rfl) (fun _ _ _ h => h) (Or.inl ⟨by rfl, ?_⟩) hHeld ?_ ?_
  rotate_left
  ·rintro w' ⟨s0, s1, s2⟩
   go_simp
   with_reducible rfl
  rotate_left
  ·simp only [Act.put, lstS, lstZ, lstC, i64_w, i32_w]
   rfl
  refine one_ (i := 3) (N := some 30) (bv_ 7 15) rfl rfl (by kernel_rfl) (by decide) (fun K hK => ?_)
  refine gs_ Try.func61 #[.int .i64 a0, .slice A2 l2.length c2] ?_
  with_reducible refine (spec_l08Sorted.calls k1 a0 _ _ l2 t274 _ ?side1 ?side2 A17.out).mono ?_
  (case side1 => exact ca_ (Kd.C_below HR2.out HB.out))
  (case side2 => exact HC2.out)
  rintro e w19 ⟨v275, rfl, ho0, hb⟩
  refine ⟨_, rfl, ?_⟩
  have HO276 := Aside0.mk (Kd.R_lower ho0 (below_size (bw_ HB).out))
  replace BK270 := bb_ BK270 hb
  replace BK271 := bb_ BK271 hb
  replace HB := bt_ HB hb
  try clear hb
  (try clear ho0)
  obtain ⟨Ao20, co20, eo20⟩ := Kd.R_slice HO276.out
  (first | subst eo20 | (injection eo20 with f1_ f2_ f3_; have f4_ := f1_.symm; have f5_ := f3_.symm; clear f1_ f2_ f3_; subst f4_; subst f5_))
  refine hK.out _ _ ⟨cz_ BK270 0, cz_ BK270 1, cz_ BK270 2⟩ (fun hHeld => ?_)
  clear hK K
  refine nm_ (some 30) ?_
  refine pure_ (i := 4) (N := some 31) (v := ?_) (a' := ?_) (bv_ 7 31) rfl rfl (by kernel_rfl) (fun _ _ _ h => h) (Or.inl ⟨by rfl, ?_⟩) ?_ ?_
  rotate_left
  ·intro w'
   go_simp
   with_reducible rfl
  rotate_left
  ·simp only [Act.put, lstS, lstZ, lstC, i64_w, i32_w]
   rfl
  refine one_ (i := 5) (N := none) (bv_ 7 63) rfl rfl (by kernel_rfl) (by decide) (fun K hK => ?_)
  have hs21 : w19.cell? ⟨gb271, 0, none⟩ = some (.int .i64 x272000_1) := (blk_cell BK271.out 0).trans rfl
  have hfs21 := blk_frozen BK271.out 0
  have hns21_0 := NB270_271.out
  have hms21_0 := NB271_270.out
  have hs22 : w19.cell? ⟨gb271, 1, none⟩ = some (.int .i64 x272001_1) := (blk_cell BK271.out 1).trans rfl
  have hfs22 := blk_frozen BK271.out 1
  have hns22_0 := NB270_271.out
  have hms22_0 := NB271_270.out
  have hs23 : w19.cell? ⟨gb271, 2, none⟩ = some (.int .i64 x272002_1) := (blk_cell BK271.out 2).trans rfl
  have hfs23 := blk_frozen BK271.out 2
  have hns23_0 := NB270_271.out
  have hms23_0 := NB271_270.out
  have hs24 : w19.cell? ⟨gb271, 3, none⟩ = some (.slice none 0 0) := (blk_cell BK271.out 3).trans rfl
  have hfs24 := blk_frozen BK271.out 3
  have hns24_0 := NB270_271.out
  have hms24_0 := NB271_270.out
  refine skip_ (w1 := ?_) (by rfl) rfl ?_ ?_
  rotate_left
  ·go_simp
   rfl
  refine hK.out _ _ ⟨(cg_ NB270_271 ((cg_ NB270_271 ((cg_ NB270_271 ((cg_ NB270_271 (hHeld.1)))))))), (cg_ NB270_271 ((cg_ NB270_271 ((cg_ NB270_271 ((cg_ NB270_271 (hHeld.2.1)))))))), (cg_ NB270_271 ((cg_ NB270_271 ((cg_ NB270_271 ((cg_ NB270_271 (hHeld.2.2))))))))⟩ (fun hHeld => ?_)
  clear hK K
  refine pure_ (i := 6) (N := some 7) (v := ?_) (a' := ?_) (bv_ 7 127) rfl rfl (by kernel_rfl) (fun _ _ _ h => h) (Or.inl ⟨by rfl, ?_⟩) ?_ ?_
  rotate_left
  ·intro w'
   go_simp
   with_reducible rfl
  rotate_left
  ·simp only [Act.put, lstS, lstZ, lstC, i64_w, i32_w]
   rfl
  refine done_ (by kernel_rfl) ?_
  try go_wp2
  refine bodyPost_ret (results_ct rfl _ _ gb271 34 #[.int .i64 a1_0, .int .i64 a1_1, .int .i64 a1_2, .slice Ao20 t274.length co20] (0, 0) _ rfl (bp_ BK271).out Try.underlying34 rfl (by kernel_rfl)) rfl ?_
  exact ⟨_, es_, by (with_reducible repeat (first | apply Kd.R_alloc | apply Kd.R_drewN | apply Kd.R_drew)); exact Kd.R_mono (Kd.R_far (p := ⟨gb271, 3, none⟩) (Kd.R_far (p := ⟨gb271, 2, none⟩) (Kd.R_far (p := ⟨gb271, 1, none⟩) (Kd.R_far (p := ⟨gb271, 0, none⟩) (Kd.R_types HO276.out BK271.out (by decide)) (fun _ hk => hk.2) (.int .i64 a1_0)) (fun _ hk => hk.2) (.int .i64 a1_1)) (fun _ hk => hk.2) (.int .i64 a1_2)) (fun _ hk => hk.2) (.slice Ao20 t274.length co20)) (fun _ hk => trivial), (bw_ HB).out⟩
/-! ### spec_l08Weight: function 54 -/
def spec_l08Weight.l0 : Nat → Int → Int → Int → Int → Int → Int → List (S72) → Int → Int → Int → Option (Int)
 | 0, _, _, _, _, _, _, _, _, _, _ => none
 | k + 1, x0, x7, x8, x278000, x278001, x278002, x278003, x279000, x279001, x279002 => if x8 < (x278003.length : Int) then (if 0 ≤ x8 then ((spec_l01Holds.f k x0 x279000 x279001 x279002 ((rd_T72 x278003 x8).f0.f0) ((rd_T72 x278003 x8).f0.f1) ((rd_T72 x278003 x8).f0.f2)).bind fun t280 => (if t280 = true then (spec_l08Weight.l0 k x0 (wrap64 (x7 + ((rd_T72 x278003 x8).f1))) (wrap64 (x8 + 1)) x278000 x278001 x278002 x278003 x279000 x279001 x279002) else (spec_l08Weight.l0 k x0 x7 (wrap64 (x8 + 1)) x278000 x278001 x278002 x278003 x279000 x279001 x279002))) else (none)) else (some x7)
def spec_l08Weight.f (k : Nat) (a0 a1_0 a1_1 a1_2 : Int) (l1_3 : List (S72)) (a2_0 a2_1 a2_2 : Int) : Option (Int) := spec_l08Weight.l0 k a0 0 0 a1_0 a1_1 a1_2 l1_3 a2_0 a2_1 a2_2
def spec_l08Weight.T5 : Bool × List (List Nat × List Nat) := (true, [([], []), ([], []), ([], []), ([2], [2]), ([], []), ([3, 4], [3, 4]), ([5], [5]), ([6], [6]), ([0, 1, 7], [0, 1, 7])])
def spec_l08Weight.B5 : List Nat := [0, 0, 0, 4, 0, 28, 60, 124, 255]
theorem spec_l08Weight.tab5 : rtab .any (opsOf Try.f54 5) = spec_l08Weight.T5 := by kernel_rfl
theorem spec_l08Weight.bits5 : waitsOk spec_l08Weight.T5.2 spec_l08Weight.B5 = true := by kernel_rfl
theorem spec_l08Weight.calls (k : Nat) (a0 a1_0 a1_1 a1_2 : Int) (A1_3 : Option Addr) (c1_3 : Nat) (l1_3 : List (S72)) (a2_0 a2_1 a2_2 r : Int) (w : World) (hr1_3 : Kd.C k72 w A1_3 l1_3.length l1_3) (hc1_3 : l1_3.length ≤ c1_3) (h : spec_l08Weight.f k a0 a1_0 a1_1 a1_2 l1_3 a2_0 a2_1 a2_2 = some r) :
  Calls Try.prog 54 #[.int .i64 a0, .agg #[.int .i64 a1_0, .int .i64 a1_1, .int .i64 a1_2, .slice A1_3 l1_3.length c1_3], .agg #[.int .i64 a2_0, .int .i64 a2_1, .int .i64 a2_2]] w fun e w' => e = .returned (.int .i64 r) ∧ Below w.heap.size w w' := by
 have hu34 := Try.underlying34
 have hu31 := Try.underlying31
 have hu72 := Try.underlying72
 have HR1_3 := Aside0.mk hr1_3
 have HC1_3 := Aside0.mk hc1_3
 clear hr1_3 hc1_3
 have HB := Aside0.mk (Below.refl w.heap.size w)
 unfold spec_l08Weight.f at h
 have H := h
 clear h
 have H' := Aside0.mk H
 clear H
 go_enter Try.func54, Try.ntmps54
 go_wp2_with (first | ((refine gd_ 4 ?_); refine by_ 4 #[.int .i64 a1_0, .int .i64 a1_1, .int .i64 a1_2, .slice A1_3 l1_3.length c1_3] 34 HB ?_; intro gb277 hg w4 BK277 hb GW277 HB_; replace HB := HB_; clear hb hg) | ((refine gd_ 5 ?_); refine by_ 5 #[.int .i64 a2_0, .int .i64 a2_1, .int .i64 a2_2] 31 HB ?_; intro gb278 hg w5 BK278 hb GW278 HB_; have NB277_278 := bm_ BK277 hg; have NB278_277 := bn_ BK277 hg; replace BK277 := bb_ BK277 hb; replace HB := HB_; clear hb hg))
 go_loopg [7, 8] k (fun kq v7 v8 w' => ∃ (x7_1 : Int) (x8_1 : Int), v7 = .int .i64 x7_1 ∧ v8 = .int .i64 x8_1 ∧ Aside0 (spec_l08Weight.l0 kq a0 x7_1 x8_1 a1_0 a1_1 a1_2 l1_3 a2_0 a2_1 a2_2 = some r) ∧ Aside0 (kq ≤ k) ∧ Aside0 (w'.heap[gb277]? = some (.cells #[.int .i64 a1_0, .int .i64 a1_1, .int .i64 a1_2, (.slice A1_3 l1_3.length c1_3)] 34 (0, 0))) ∧ Aside0 (w'.heap[gb278]? = some (.cells #[.int .i64 a2_0, .int .i64 a2_1, .int .i64 a2_2] 31 (0, 0))) ∧ Aside0 (Below w.heap.size w w'))
 case atStart => exact ⟨(0), (0), en_, en_, H', ⟨Nat.le_refl _⟩, bl_ BK277, bl_ BK278, bw_ HB⟩
 clear H'
 obtain ⟨x7_1, x8_1, rfl, rfl, HA, HK1, BK277, BK278, HB⟩ := hrel
 cases gk with
 | zero => exact absurd HA.out (by simp [spec_l08Weight.l0])
 | succ k1 =>
  have H := HA.out
  clear HA
  simp only [spec_l08Weight.l0] at H
  replace H := il_ H
  rcases H with ⟨c6b0, H⟩ | ⟨c6b0, H⟩
  ·replace H := imn_ H
   obtain ⟨c7b0, H⟩ := H
   replace H := oc_ H
   obtain ⟨t280, A8, H⟩ := H
   replace H := ib_ H
   rcases H with ⟨rfl, H⟩ | ⟨rfl, H⟩
   ·have H' := Aside0.mk H
    clear H
    have hnb10 := NB277_278.out
    have hnc10 := NB278_277.out
    obtain ⟨hcz11_0, hcz11_1, hcz11_2, hcz11_3, hfz11_0, hfz11_1, hfz11_2, hfz11_3⟩ := ch4_ BK277
    try go_wp2
    replace BK277 := bd_ BK277
    replace BK278 := bd_ BK278
    replace HB := be_ HB
    have p279 : 0 ≤ (x8_1 : Int) := od_
    have q279 : x8_1 < (l1_3.length : Int) := od_
    obtain ⟨ad279, e279, hx279_0, hx279_1, hx279_2, hx279_3⟩ := at_T72 HR1_3.out x8_1 p279 q279
    have hw279_3 := hx279_3
    have hw279_2 := hx279_2
    have hw279_1 := hx279_1
    have hw279_0 := hx279_0
    cases e279
    replace hx279_0 := clTr HB.out hx279_0
    replace hx279_1 := clTr HB.out hx279_1
    replace hx279_2 := clTr HB.out hx279_2
    replace hx279_3 := clTr HB.out hx279_3
    replace p279 := eq_true p279
    replace q279 := eq_true q279
    refine start_ (n := 9) (S := fun w' => w'.cell? ⟨gb278, 0, none⟩ = some (.int .i64 a2_0) ∧ w'.cell? ⟨gb278, 1, none⟩ = some (.int .i64 a2_1) ∧ w'.cell? ⟨gb278, 2, none⟩ = some (.int .i64 a2_2) ∧ w'.cell? ⟨gb277, 0, none⟩ = some (.int .i64 a1_0) ∧ w'.cell? ⟨gb277, 1, none⟩ = some (.int .i64 a1_1) ∧ w'.cell? ⟨gb277, 2, none⟩ = some (.int .i64 a1_2) ∧ w'.cell? ⟨gb277, 3, none⟩ = some (.slice (some ad279) l1_3.length c1_3) ∧ w'.cell? (ad279.add ((x8_1).toNat * 4)) = some (.int .i64 ((rd_T72 l1_3 x8_1).f0.f0)) ∧ w'.cell? ⟨(ad279.add ((x8_1).toNat * 4)).block, (ad279.add ((x8_1).toNat * 4)).off + 1, none⟩ = some (.int .i64 ((rd_T72 l1_3 x8_1).f0.f1)) ∧ w'.cell? ⟨(ad279.add ((x8_1).toNat * 4)).block, (ad279.add ((x8_1).toNat * 4)).off + 2, none⟩ = some (.int .i64 ((rd_T72 l1_3 x8_1).f0.f2)) ∧ w'.cell? ⟨(ad279.add ((x8_1).toNat * 4)).block, (ad279.add ((x8_1).toNat * 4)).off + 3, none⟩ = some (.int .i64 ((rd_T72 l1_3 x8_1).f1))) (ds := []) (bv_ 9 0) (by kernel_rfl) rfl rfl ⟨cz_ BK278 0, cz_ BK278 1, cz_ BK278 2, cz_ BK277 0, cz_ BK277 1, cz_ BK277 2, cz_ BK277 3, (clTr HB.out hw279_0 :), (clTr HB.out hw279_1 :), (clTr HB.out hw279_2 :), (clTr HB.out hw279_3 :)⟩ (fun hHeld => ?_); refine with_tabW spec_l08Weight.tab5 spec_l08Weight.bits5 (fun HT_ HW_ => ?_)
    generalize wr.drew = w12 at BK277 BK278 HB hx279_0 hx279_1 hx279_2 hx279_3 hHeld ⊢
    refine px_ HT_ 0 16 1 ?_
    refine px_ HT_ 2 18 5 ?_
    refine px_ HT_ 4 20 21 ?_
    refine ta_ HT_ HW_ 1 (some 17) (bv_ 9 23) hHeld ?_ (hy := by rintro w' ⟨s0, s1, s2, s3, s4, s5, s6, s7, s8, s9, s10⟩; go_simp; with_reducible rfl)
    refine ta_ HT_ HW_ 3 (some 19) (bv_ 9 31) hHeld ?_ (hy := by rintro w' ⟨s0, s1, s2, s3, s4, s5, s6, s7, s8, s9, s10⟩; go_simp; with_reducible rfl)
    refine px_ HT_ 5 21 63 ?_
    refine px_ HT_ 6 22 127 ?_
    refine ta_ HT_ HW_ 7 (some 23) (bv_ 9 255) hHeld ?_ (hy := by rintro w' ⟨s0, s1, s2, s3, s4, s5, s6, s7, s8, s9, s10⟩; go_simp; with_reducible rfl)
    refine on_ HT_ 8 (some 24) (bv_ 9 511) (fun K hK => ?_)
    refine gs_ Try.func41 #[.int .i64 a0, .agg #[.int .i64 a2_0, .int .i64 a2_1, .int .i64 a2_2], .agg #[.int .i64 ((rd_T72 l1_3 x8_1).f0.f0), .int .i64 ((rd_T72 l1_3 x8_1).f0.f1), .int .i64 ((rd_T72 l1_3 x8_1).f0.f2)]] ?_
    with_reducible refine (spec_l01Holds.calls k1 a0 a2_0 a2_1 a2_2 ((rd_T72 l1_3 x8_1).f0.f0) ((rd_T72 l1_3 x8_1).f0.f1) ((rd_T72 l1_3 x8_1).f0.f2) true _ A8.out).mono ?_
    rintro e w13 ⟨rfl, hb⟩
    refine ⟨_, rfl, ?_⟩
    replace BK277 := bb_ BK277 hb
    replace BK278 := bb_ BK278 hb
    replace HB := bt_ HB hb
    try clear hb
    refine hK.out _ _ ⟨cz_ BK278 0, cz_ BK278 1, cz_ BK278 2, cz_ BK277 0, cz_ BK277 1, cz_ BK277 2, cz_ BK277 3, (clTr HB.out hw279_0 :), (clTr HB.out hw279_1 :), (clTr HB.out hw279_2 :), (clTr HB.out hw279_3 :)⟩ (fun hHeld => ?_)
    clear hK K
    refine nm_ (some 24) ?_
    refine done_ (done_of HT_.out (by kernel_rfl)) ?_
    obtain ⟨hcz14_0, hcz14_1, hcz14_2, hcz14_3, hfz14_0, hfz14_1, hfz14_2, hfz14_3⟩ := ch4_ BK277
    have p281 : 0 ≤ (x8_1 : Int) := od_
    have q281 : x8_1 < (l1_3.length : Int) := od_
    obtain ⟨ad281, e281, hx281_0, hx281_1, hx281_2, hx281_3⟩ := at_T72 HR1_3.out x8_1 p281 q281
    obtain rfl : ad279 = ad281 := (by injection e281)
    replace hx281_0 := clTr HB.out hx281_0
    replace hx281_1 := clTr HB.out hx281_1
    replace hx281_2 := clTr HB.out hx281_2
    replace hx281_3 := clTr HB.out hx281_3
    replace p281 := eq_true p281
    replace q281 := eq_true q281
    try go_wp2
    go_roundg k1
    case measure => have := HK1.out; omega
    case rel => exact ⟨(wrap64 (x7_1 + ((rd_T72 l1_3 x8_1).f1))), (wrap64 (x8_1 + 1)), en_, en_, H', ⟨by have := HK1.out; omega⟩, bl_ BK277, bl_ BK278, bw_ HB⟩
   have H' := Aside0.mk H
   clear H
   have hnb15 := NB277_278.out
   have hnc15 := NB278_277.out
   obtain ⟨hcz16_0, hcz16_1, hcz16_2, hcz16_3, hfz16_0, hfz16_1, hfz16_2, hfz16_3⟩ := ch4_ BK277
   try go_wp2
   replace BK277 := bd_ BK277
   replace BK278 := bd_ BK278
   replace HB := be_ HB
   have p279 : 0 ≤ (x8_1 : Int) := od_
   have q279 : x8_1 < (l1_3.length : Int) := od_
   obtain ⟨ad279, e279, hx279_0, hx279_1, hx279_2, hx279_3⟩ := at_T72 HR1_3.out x8_1 p279 q279
   have hw279_3 := hx279_3
   have hw279_2 := hx279_2
   have hw279_1 := hx279_1
   have hw279_0 := hx279_0
   cases e279
   replace hx279_0 := clTr HB.out hx279_0
   replace hx279_1 := clTr HB.out hx279_1
   replace hx279_2 := clTr HB.out hx279_2
   replace hx279_3 := clTr HB.out hx279_3
   replace p279 := eq_true p279
   replace q279 := eq_true q279
   refine start_ (n := 9) (S := fun w' => w'.cell? ⟨gb278, 0, none⟩ = some (.int .i64 a2_0) ∧ w'.cell? ⟨gb278, 1, none⟩ = some (.int .i64 a2_1) ∧ w'.cell? ⟨gb278, 2, none⟩ = some (.int .i64 a2_2) ∧ w'.cell? ⟨gb277, 0, none⟩ = some (.int .i64 a1_0) ∧ w'.cell? ⟨gb277, 1, none⟩ = some (.int .i64 a1_1) ∧ w'.cell? ⟨gb277, 2, none⟩ = some (.int .i64 a1_2) ∧ w'.cell? ⟨gb277, 3, none⟩ = some (.slice (some ad279) l1_3.length c1_3) ∧ w'.cell? (ad279.add ((x8_1).toNat * 4)) = some (.int .i64 ((rd_T72 l1_3 x8_1).f0.f0)) ∧ w'.cell? ⟨(ad279.add ((x8_1).toNat * 4)).block, (ad279.add ((x8_1).toNat * 4)).off + 1, none⟩ = some (.int .i64 ((rd_T72 l1_3 x8_1).f0.f1)) ∧ w'.cell? ⟨(ad279.add ((x8_1).toNat * 4)).block, (ad279.add ((x8_1).toNat * 4)).off + 2, none⟩ = some (.int .i64 ((rd_T72 l1_3 x8_1).f0.f2)) ∧ w'.cell? ⟨(ad279.add ((x8_1).toNat * 4)).block, (ad279.add ((x8_1).toNat * 4)).off + 3, none⟩ = some (.int .i64 ((rd_T72 l1_3 x8_1).f1))) (ds := []) (bv_ 9 0) (by kernel_rfl) rfl rfl ⟨cz_ BK278 0, cz_ BK278 1, cz_ BK278 2, cz_ BK277 0, cz_ BK277 1, cz_ BK277 2, cz_ BK277 3, (clTr HB.out hw279_0 :), (clTr HB.out hw279_1 :), (clTr HB.out hw279_2 :), (clTr HB.out hw279_3 :)⟩ (fun hHeld => ?_); refine with_tabW spec_l08Weight.tab5 spec_l08Weight.bits5 (fun HT_ HW_ => ?_)
   generalize wr.drew = w17 at BK277 BK278 HB hx279_0 hx279_1 hx279_2 hx279_3 hHeld ⊢
   refine px_ HT_ 0 16 1 ?_
   refine px_ HT_ 2 18 5 ?_
   refine px_ HT_ 4 20 21 ?_
   refine ta_ HT_ HW_ 1 (some 17) (bv_ 9 23) hHeld ?_ (hy := by rintro w' ⟨s0, s1, s2, s3, s4, s5, s6, s7, s8, s9, s10⟩; go_simp; with_reducible rfl)
   refine ta_ HT_ HW_ 3 (some 19) (bv_ 9 31) hHeld ?_ (hy := by rintro w' ⟨s0, s1, s2, s3, s4, s5, s6, s7, s8, s9, s10⟩; go_simp; with_reducible rfl)
   refine px_ HT_ 5 21 63 ?_
   refine px_ HT_ 6 22 127 ?_
   refine ta_ HT_ HW_ 7 (some 23) (bv_ 9 255) hHeld ?_ (hy := by rintro w' ⟨s0, s1, s2, s3, s4, s5, s6, s7, s8, s9, s10⟩; go_simp; with_reducible rfl)
   refine on_ HT_ 8 (some 24) (bv_ 9 511) (fun K hK => ?_)
   refine gs_ Try.func41 #[.int .i64 a0, .agg #[.int .i64 a2_0, .int .i64 a2_1, .int .i64 a2_2], .agg #[.int .i64 ((rd_T72 l1_3 x8_1).f0.f0), .int .i64 ((rd_T72 l1_3 x8_1).f0.f1), .int .i64 ((rd_T72 l1_3 x8_1).f0.f2)]] ?_
   with_reducible refine (spec_l01Holds.calls k1 a0 a2_0 a2_1 a2_2 ((rd_T72 l1_3 x8_1).f0.f0) ((rd_T72 l1_3 x8_1).f0.f1) ((rd_T72 l1_3 x8_1).f0.f2) false _ A8.out).mono ?_
   rintro e w18 ⟨rfl, hb⟩
   refine ⟨_, rfl, ?_⟩
   replace BK277 := bb_ BK277 hb
   replace BK278 := bb_ BK278 hb
   replace HB := bt_ HB hb
   try clear hb
   refine hK.out _ _ ⟨cz_ BK278 0, cz_ BK278 1, cz_ BK278 2, cz_ BK277 0, cz_ BK277 1, cz_ BK277 2, cz_ BK277 3, (clTr HB.out hw279_0 :), (clTr HB.out hw279_1 :), (clTr HB.out hw279_2 :), (clTr HB.out hw279_3 :)⟩ (fun hHeld => ?_)
   clear hK K
   refine nm_ (some 24) ?_
   refine done_ (done_of HT_.out (by kernel_rfl)) ?_
   try go_wp2
   go_roundg k1
   case measure => have := HK1.out; omega
   case rel => exact ⟨(x7_1), (wrap64 (x8_1 + 1)), en_, en_, H', ⟨by have := HK1.out; omega⟩, bl_ BK277, bl_ BK278, bw_ HB⟩
  obtain rfl := si_ H
  have hnb19 := NB277_278.out
  have hnc19 := NB278_277.out
  obtain ⟨hcz20_0, hcz20_1, hcz20_2, hcz20_3, hfz20_0, hfz20_1, hfz20_2, hfz20_3⟩ := ch4_ BK277
  go_wp2
  go_ret
  exact ⟨es_, (bw_ HB).out⟩
end Go.Proofs.Ytdfcoebadjhjlaa.QH
