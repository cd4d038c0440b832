import Derived.Test.YtdfcoebadjhjlaaQGx6
import Derived.Test.YtdfcoebadjhjlaaQGx19
import Derived.Test.YtdfcoebadjhjlaaQGx29
namespace Go.Proofs.Ytdfcoebadjhjlaa.QG
open Go.RowKit Go.Proofs.YtdfcoebadjhjlaaW.PrintWords Go.Proofs.YtdfcoebadjhjlaaW.PrintLast Go.Proofs.YtdfcoebadjhjlaaW.PrintMore
attribute [local go_sem] isSome_setCell max2_int min2_int max_two min_two max_three min_three max_four min_four
set_option linter.unusedVariables false
set_option linter.unusedSimpArgs false

/-! ### spec_l08Told: function 43 -/
def spec_l08Told.l0 : Nat → Int → List (S72) → Int → Int → Int → Int → Option (Int × Int × Int × (List (S72)) × Int)
 | 0, _, _, _, _, _, _ => none
 | k + 1, x0, x2, x8, x265000, x265001, x265002 => if x8 < (x2.length : Int) then (if 0 ≤ x8 then ((spec_l01In.f ((rd_T72 x2 x8).f1) (-1000000) 1000000).bind fun t267 => (if t267 = true then (spec_l08Told.l0 k x0 x2 (wrap64 (x8 + 1)) x265000 x265001 x265002) else (some (0, 0, 0, ([] : List (S72)), 3)))) else (none)) else ((spec_l08Sorted.f k x0 x2).bind fun t268 => (some (x265000, x265001, x265002, t268, 0)))
def spec_l08Told.f (k : Nat) (a0 a1_0 a1_1 a1_2 : Int) (l2 : List (S72)) : Option (Int × Int × Int × (List (S72)) × Int) := if (l2.length : Int) > 64 then (some (0, 0, 0, ([] : List (S72)), 3)) else (spec_l08Told.l0 k a0 l2 0 a1_0 a1_1 a1_2)
set_option maxHeartbeats 8000000 in
set_option maxRecDepth 100000 in
theorem spec_l08Told.calls (k : Nat) (a0 a1_0 a1_1 a1_2 : Int) (A2 : Option Addr) (c2 : Nat) (l2 : List (S72)) (r1 r2 r3 : Int) (r4 : List (S72)) (r5 : Int) (w : World) (hr2 : Kd.C k72 w A2 l2.length l2) (hc2 : l2.length ≤ c2) (h : spec_l08Told.f k a0 a1_0 a1_1 a1_2 l2 = some (r1, r2, r3, r4, r5)) :
  Calls Try.prog 43 #[.int .i64 a0, .agg #[.int .i64 a1_0, .int .i64 a1_1, .int .i64 a1_2], .slice A2 l2.length c2] w fun e w' => ∃ v3_ : Value, e = .returned (.tuple #[.agg #[.int .i64 r1, .int .i64 r2, .int .i64 r3, v3_], .int .i64 r5]) ∧ Kd.R k72 72 w' w.heap.size (fun _ => True) v3_ r4 ∧ Below w.heap.size w w' := by
 have hu31 := Try.underlying31
 have hu34 := Try.underlying34
 have hu72 := Try.underlying72
 have HR2 := Aside0.mk hr2
 have HC2 := Aside0.mk hc2
 clear hr2 hc2
 have HB := Aside0.mk (Below.refl w.heap.size w)
 unfold spec_l08Told.f at h
 have H := h
 clear h
 by_cases c4 : (l2.length : Int) > 64
 ·rw [if_pos c4] at H
  have c4b0 : decide (64 < (l2.length : Int)) = true := decide_eq_true c4
  have c4b1 : decide (64 < l2.length) = true := decide_eq_true (by omega)
  clear c4
  simp only [Option.some.injEq, Prod.mk.injEq] at H
  obtain ⟨rfl, rfl, rfl, rfl, rfl⟩ := H
  go_enter Try.func43, Try.ntmps43
  go_wp2_with (first | ((refine gd_ 4 ?_); refine by_ 4 #[.int .i64 a1_0, .int .i64 a1_1, .int .i64 a1_2] 31 HB ?_; intro gb264 hg w5 BK264 hb GW264 HB_; replace HB := HB_; clear hb hg) | ((refine gd_ 6 ?_); refine by_ 6 #[.int .i64 0, .int .i64 0, .int .i64 0, .slice none 0 0] 34 HB ?_; intro gb265 hg w6 BK265 hb GW265 HB_; have NB264_265 := bm_ BK264 hg; have NB265_264 := bn_ BK264 hg; replace BK264 := bb_ BK264 hb; replace HB := HB_; clear hb hg; have hnb7 := NB265_264.out; have hnc7 := NB264_265.out; obtain ⟨hcz8_0, hcz8_1, hcz8_2, hcz8_3, hfz8_0, hfz8_1, hfz8_2, hfz8_3⟩ := ch4_ BK265))
  refine bodyPost_ret (results_ct rfl _ _ gb265 34 #[.int .i64 0, .int .i64 0, .int .i64 0, .slice none 0 0] (0, 0) _ rfl (bp_ BK265).out Try.underlying34 rfl (by kernel_rfl)) rfl ?_
  exact ⟨_, es_, by first | exact Kd.R_nil _ _ _ _ _ | exact Kd.N_nil _ _ _ _ _ | exact Kd.V_nil _ _ _ _ _ | exact Kd.Q_nil _ _ _ _ _ | exact Kd.S_nil _ _ _ _ _, (bw_ HB).out⟩
 rw [if_neg c4] at H
 have c4b0 : decide (64 < (l2.length : Int)) = false := decide_eq_false c4
 have c4b1 : decide (64 < l2.length) = false := decide_eq_false (by omega)
 clear c4
 have H' := Aside0.mk H
 clear H
 go_enter Try.func43, Try.ntmps43
 go_wp2_with (first | ((refine gd_ 4 ?_); refine by_ 4 #[.int .i64 a1_0, .int .i64 a1_1, .int .i64 a1_2] 31 HB ?_; intro gb264 hg w9 BK264 hb GW264 HB_; replace HB := HB_; clear hb hg) | ((refine gd_ 6 ?_); refine by_ 6 #[.int .i64 0, .int .i64 0, .int .i64 0, .slice none 0 0] 34 HB ?_; intro gb265 hg w10 BK265 hb GW265 HB_; have NB264_265 := bm_ BK264 hg; have NB265_264 := bn_ BK264 hg; replace BK264 := bb_ BK264 hb; replace HB := HB_; clear hb hg))
 go_loopg [8] k (fun kq v8 w' => ∃ (x8_1 : Int) (x266000_1 : Int) (x266001_1 : Int) (x266002_1 : Int), v8 = .int .i64 x8_1 ∧ Aside0 (spec_l08Told.l0 kq a0 l2 x8_1 a1_0 a1_1 a1_2 = some (r1, r2, r3, r4, r5)) ∧ Aside0 (kq ≤ k) ∧ Aside0 (w'.heap[gb264]? = some (.cells #[.int .i64 a1_0, .int .i64 a1_1, .int .i64 a1_2] 31 (0, 0))) ∧ Aside0 (w'.heap[gb265]? = some (.cells #[.int .i64 x266000_1, .int .i64 x266001_1, .int .i64 x266002_1, (.slice none 0 0)] 34 (0, 0))) ∧ Aside0 (Below w.heap.size w w'))
 case atStart => exact ⟨(0), (0), (0), (0), en_, H', ⟨Nat.le_refl _⟩, bl_ BK264, bl_ BK265, bw_ HB⟩
 clear H'
 try clear c2
 try clear c4
 try clear c4b0
 try clear c4b1
 try clear hcz8_0 hcz8_1 hcz8_2 hcz8_3
 try clear hfz8_0 hfz8_1 hfz8_2 hfz8_3
 obtain ⟨x8_1, x266000_1, x266001_1, x266002_1, rfl, HA, HK1, BK264, BK265, HB⟩ := hrel
 cases gk with
 | zero => exact absurd HA.out (by simp [spec_l08Told.l0])
 | succ k1 =>
  have H := HA.out
  clear HA
  simp only [spec_l08Told.l0] at H
  replace H := il_ H
  rcases H with ⟨c11b0, H⟩ | ⟨c11b0, H⟩
  ·replace H := imn_ H
   obtain ⟨c12b0, H⟩ := H
   replace H := oc_ H
   obtain ⟨t267, A13, H⟩ := H
   replace H := ib_ H
   rcases H with ⟨rfl, H⟩ | ⟨rfl, H⟩
   ·have H' := Aside0.mk H
    clear H
    have p266 : 0 ≤ (x8_1 : Int) := od_
    have q266 : x8_1 < (l2.length : Int) := od_
    obtain ⟨ad266, e266, hx266_0, hx266_1, hx266_2, hx266_3⟩ := at_T72 HR2.out x8_1 p266 q266
    cases e266
    replace hx266_0 := clTr HB.out hx266_0
    replace hx266_1 := clTr HB.out hx266_1
    replace hx266_2 := clTr HB.out hx266_2
    replace hx266_3 := clTr HB.out hx266_3
    replace p266 := eq_true p266
    replace q266 := eq_true q266
    go_wp2_with (first | ((refine gc_ 42 ?_); refine ge_ 24 Try.func42 #[.int .i64 ((rd_T72 l2 x8_1).f1), .int .i64 (-1000000), .int .i64 1000000] ?_; (with_reducible refine (spec_l01In.calls ((rd_T72 l2 x8_1).f1) (-1000000) 1000000 true _ A13.out).mono ?_); rintro e w' ⟨rfl, ⟨nd, rfl⟩⟩; refine ⟨_, rfl, ?_⟩))
    go_roundg k1
    case measure => have := HK1.out; omega
    case rel => exact ⟨(wrap64 (x8_1 + 1)), (x266000_1), (x266001_1), (x266002_1), en_, H', ⟨by have := HK1.out; omega⟩, bl_ BK264, bl_ BK265, bw_ HB⟩
   simp only [Option.some.injEq, Prod.mk.injEq] at H
   obtain ⟨rfl, rfl, rfl, rfl, rfl⟩ := H
   have p266 : 0 ≤ (x8_1 : Int) := od_
   have q266 : x8_1 < (l2.length : Int) := od_
   obtain ⟨ad266, e266, hx266_0, hx266_1, hx266_2, hx266_3⟩ := at_T72 HR2.out x8_1 p266 q266
   cases e266
   replace hx266_0 := clTr HB.out hx266_0
   replace hx266_1 := clTr HB.out hx266_1
   replace hx266_2 := clTr HB.out hx266_2
   replace hx266_3 := clTr HB.out hx266_3
   replace p266 := eq_true p266
   replace q266 := eq_true q266
   go_wp2_with (first | ((refine gc_ 42 ?_); refine ge_ 24 Try.func42 #[.int .i64 ((rd_T72 l2 x8_1).f1), .int .i64 (-1000000), .int .i64 1000000] ?_; (with_reducible refine (spec_l01In.calls ((rd_T72 l2 x8_1).f1) (-1000000) 1000000 false _ A13.out).mono ?_); rintro e w' ⟨rfl, ⟨nd, rfl⟩⟩; refine ⟨_, rfl, ?_⟩; (try (rw [drewN_self wr]; generalize hq_ : World.drewN wr _ = wr; replace BK264 := bq_ BK264 hq_; replace BK265 := bq_ BK265 hq_; replace HB := hq_' HB hq_; clear hq_)); have hnb15 := NB265_264.out; have hnc15 := NB264_265.out; obtain ⟨hcz16_0, hcz16_1, hcz16_2, hcz16_3, hfz16_0, hfz16_1, hfz16_2, hfz16_3⟩ := ch4_ BK265))
   refine bodyPost_ret (results_ct rfl _ _ gb265 34 #[.int .i64 0, .int .i64 0, .int .i64 0, .slice none 0 0] (0, 0) _ rfl (bp_ BK265).out Try.underlying34 rfl (by kernel_rfl)) rfl ?_
   exact ⟨_, es_, by first | exact Kd.R_nil _ _ _ _ _ | exact Kd.N_nil _ _ _ _ _ | exact Kd.V_nil _ _ _ _ _ | exact Kd.Q_nil _ _ _ _ _ | exact Kd.S_nil _ _ _ _ _, (bw_ HB).out⟩
  replace H := oc_ H
  obtain ⟨t268, A17, H⟩ := H
  simp only [Option.some.injEq, Prod.mk.injEq] at H
  obtain ⟨rfl, rfl, rfl, rfl, rfl⟩ := H
  try go_wp2
  replace BK264 := bd_ BK264
  replace BK265 := bd_ BK265
  replace HB := be_ HB
  refine start_ (n := 7) (S := fun w' => w'.cell? ⟨gb264, 0, none⟩ = some (.int .i64 a1_0) ∧ w'.cell? ⟨gb264, 1, none⟩ = some (.int .i64 a1_1) ∧ w'.cell? ⟨gb264, 2, none⟩ = some (.int .i64 a1_2)) (ds := []) (bv_ 7 0) (by kernel_rfl) rfl rfl ⟨cz_ BK264 0, cz_ BK264 1, cz_ BK264 2⟩ (fun hHeld => ?_)
  generalize wr.drew = w18 at BK264 BK265 HB hHeld ⊢
  refine pure_ (i := 1) (N := some 28) (v := ?_) (a' := ?_) (bv_ 7 2) rfl rfl (by kernel_rfl) (fun _ _ _ h => h) (Or.inl ⟨by rfl, ?_⟩) ?_ ?_
  rotate_left
  ·intro w'
   go_simp
   with_reducible rfl
  rotate_left
  ·simp only [Act.put, lstS, lstZ, lstC, i64_w, i32_w]
   rfl
  refine pure_ (i := 2) (N := some 29) (v := ?_) (a' := ?_) (bv_ 7 6) rfl rfl (by kernel_rfl) (fun _ _ _ h => h) (Or.inl ⟨by rfl, ?_⟩) ?_ ?_
  rotate_left
  ·intro w'
   go_simp
   with_reducible rfl
  rotate_left
  ·simp only [Act.put, lstS, lstZ, lstC, i64_w, i32_w]
   rfl
  refine take_ (i := 0) (N := some 27) (v := ?_) (a' := ?_) (bv_ 7 7) rfl rfl (by kernel_rfl) (fun _ _ _ h => h) (Or.inl ⟨by rfl, ?_⟩) hHeld ?_ ?_
  rotate_left
  ·rintro w' ⟨s0, s1, s2⟩
   go_simp
   with_reducible rfl
  rotate_left
  ·simp only [Act.put, lstS, lstZ, lstC, i64_w, i32_w]
   rfl
  refine one_ (i := 3) (N := some 30) (bv_ 7 15) rfl rfl (by kernel_rfl) (by decide) (fun K hK => ?_)
  refine gs_ Try.func61 #[.int .i64 a0, .slice A2 l2.length c2] ?_
  with_reducible refine (spec_l08Sorted.calls k1 a0 _ _ l2 t268 _ ?side1 ?side2 A17.out).mono ?_
  (case side1 => exact ca_ (Kd.C_below HR2.out HB.out))
  (case side2 => exact HC2.out)
  rintro e w19 ⟨v269, rfl, ho0, hb⟩
  refine ⟨_, rfl, ?_⟩
  have HO270 := Aside0.mk (Kd.R_lower ho0 (below_size (bw_ HB).out))
  replace BK264 := bb_ BK264 hb
  replace BK265 := bb_ BK265 hb
  replace HB := bt_ HB hb
  try clear hb
  (try clear ho0)
  obtain ⟨Ao20, co20, eo20⟩ := Kd.R_slice HO270.out
  (first | subst eo20 | (injection eo20 with f1_ f2_ f3_; have f4_ := f1_.symm; have f5_ := f3_.symm; clear f1_ f2_ f3_; subst f4_; subst f5_))
  refine hK.out _ _ ⟨cz_ BK264 0, cz_ BK264 1, cz_ BK264 2⟩ (fun hHeld => ?_)
  clear hK K
  refine nm_ (some 30) ?_
  refine pure_ (i := 4) (N := some 31) (v := ?_) (a' := ?_) (bv_ 7 31) rfl rfl (by kernel_rfl) (fun _ _ _ h => h) (Or.inl ⟨by rfl, ?_⟩) ?_ ?_
  rotate_left
  ·intro w'
   go_simp
   with_reducible rfl
  rotate_left
  ·simp only [Act.put, lstS, lstZ, lstC, i64_w, i32_w]
   rfl
  refine one_ (i := 5) (N := none) (bv_ 7 63) rfl rfl (by kernel_rfl) (by decide) (fun K hK => ?_)
  have hs21 : w19.cell? ⟨gb265, 0, none⟩ = some (.int .i64 x266000_1) := (blk_cell BK265.out 0).trans rfl
  have hfs21 := blk_frozen BK265.out 0
  have hns21_0 := NB264_265.out
  have hms21_0 := NB265_264.out
  have hs22 : w19.cell? ⟨gb265, 1, none⟩ = some (.int .i64 x266001_1) := (blk_cell BK265.out 1).trans rfl
  have hfs22 := blk_frozen BK265.out 1
  have hns22_0 := NB264_265.out
  have hms22_0 := NB265_264.out
  have hs23 : w19.cell? ⟨gb265, 2, none⟩ = some (.int .i64 x266002_1) := (blk_cell BK265.out 2).trans rfl
  have hfs23 := blk_frozen BK265.out 2
  have hns23_0 := NB264_265.out
  have hms23_0 := NB265_264.out
  have hs24 : w19.cell? ⟨gb265, 3, none⟩ = some (.slice none 0 0) := (blk_cell BK265.out 3).trans rfl
  have hfs24 := blk_frozen BK265.out 3
  have hns24_0 := NB264_265.out
  have hms24_0 := NB265_264.out
  refine skip_ (w1 := ?_) (by rfl) rfl ?_ ?_
  rotate_left
  ·go_simp
   rfl
  refine hK.out _ _ ⟨(cg_ NB264_265 ((cg_ NB264_265 ((cg_ NB264_265 ((cg_ NB264_265 (hHeld.1)))))))), (cg_ NB264_265 ((cg_ NB264_265 ((cg_ NB264_265 ((cg_ NB264_265 (hHeld.2.1)))))))), (cg_ NB264_265 ((cg_ NB264_265 ((cg_ NB264_265 ((cg_ NB264_265 (hHeld.2.2))))))))⟩ (fun hHeld => ?_)
  clear hK K
  refine pure_ (i := 6) (N := some 7) (v := ?_) (a' := ?_) (bv_ 7 127) rfl rfl (by kernel_rfl) (fun _ _ _ h => h) (Or.inl ⟨by rfl, ?_⟩) ?_ ?_
  rotate_left
  ·intro w'
   go_simp
   with_reducible rfl
  rotate_left
  ·simp only [Act.put, lstS, lstZ, lstC, i64_w, i32_w]
   rfl
  refine done_ (by kernel_rfl) ?_
  try go_wp2
  refine bodyPost_ret (results_ct rfl _ _ gb265 34 #[.int .i64 a1_0, .int .i64 a1_1, .int .i64 a1_2, .slice Ao20 t268.length co20] (0, 0) _ rfl (bp_ BK265).out Try.underlying34 rfl (by kernel_rfl)) rfl ?_
  exact ⟨_, es_, by (with_reducible repeat (first | apply Kd.R_alloc | apply Kd.R_drewN | apply Kd.R_drew)); exact Kd.R_mono (Kd.R_far (p := ⟨gb265, 3, none⟩) (Kd.R_far (p := ⟨gb265, 2, none⟩) (Kd.R_far (p := ⟨gb265, 1, none⟩) (Kd.R_far (p := ⟨gb265, 0, none⟩) (Kd.R_types HO270.out BK265.out (by decide)) (fun _ hk => hk.2) (.int .i64 a1_0)) (fun _ hk => hk.2) (.int .i64 a1_1)) (fun _ hk => hk.2) (.int .i64 a1_2)) (fun _ hk => hk.2) (.slice Ao20 t268.length co20)) (fun _ hk => trivial), (bw_ HB).out⟩
end Go.Proofs.Ytdfcoebadjhjlaa.QG
