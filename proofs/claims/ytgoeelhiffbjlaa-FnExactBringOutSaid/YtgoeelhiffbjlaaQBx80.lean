import Derived.Test.YtgoeelhiffbjlaaQBx76
import Derived.Test.YtgoeelhiffbjlaaQBx79
namespace Go.Proofs.Ytgoeelhiffbjlaa.QB
open Go.RowKit YtgoeelhiffbjlaaW.PrintWords YtgoeelhiffbjlaaW.PrintLast YtgoeelhiffbjlaaW.PrintMore
attribute [local go_sem] isSome_setCell max2_int min2_int max_two min_two max_three min_three max_four min_four
set_option linter.unusedVariables false
set_option linter.unusedSimpArgs false
def impl_BringOut.l0 : Nat → Int → List (S46) → List (S150) → List Int → Int → Int → Option (List Int × Int × Int × Int)
 | 0, _, _, _, _, _, _ => none
 | k + 1, x0, x1, x2, x13, x480000, x480001 => (impl_sideOf.f k x0 x2 x480000 x480001).bind fun t487 => (if t487 = 0 then (some (x13, x480000, x480001, 0)) else (if (x13.length : Int) = 12 then (some (([] : List Int), 0, 0, 4)) else (if x13.length < 17592186044416 then ((impl_letterMatrix.f k x1 t487).bind fun bt491 => ((impl_inverted.f k bt491.1 bt491.2.1 bt491.2.2.1 bt491.2.2.2).bind fun bt495 => ((impl_moveEnd.f k bt495.1 bt495.2.1 bt495.2.2.1 bt495.2.2.2 x480000 x480001).bind fun bt499 => (if bt499.2.2 = true then (impl_BringOut.l0 k x0 x1 x2 (x13 ++ [t487]) bt499.1 bt499.2.1) else (some (([] : List Int), 0, 0, 3)))))) else (none))))
def impl_BringOut.f (k : Nat) (a0 : Int) (l1 : List (S46)) (l2 : List (S150)) (a3_0 a3_1 : Int) : Option (List Int × Int × Int × Int) := (impl_IsEnd.f k a3_0 a3_1).bind fun t481 => (if t481 = true then ((impl_freeCode.f k a0 l1 l2).bind fun bt482 => (if bt482.2 = 0 then (if bt482.1 = true then (impl_BringOut.l0 k a0 l1 l2 (([] : List Int)) a3_0 a3_1) else (some (([] : List Int), 0, 0, 5))) else (some (([] : List Int), 0, 0, bt482.2)))) else (some (([] : List Int), 0, 0, 1)))
def impl_BringOut.T15 : Bool × List (List Nat × List Nat) := (true, [([], []), ([], []), ([0, 1], [0, 1]), ([2, 2], [2]), ([], []), ([3, 4, 3], [3, 4]), ([5], [5]), ([6], [6]), ([6], [6]), ([], []), ([9, 7, 5, 0, 1, 2, 3, 4, 5, 6, 7, 9], [7, 9]), ([8, 10, 0, 1, 2, 3, 4, 5, 6, 7, 8, 9, 10], [8])])
def impl_BringOut.B15 : List Nat := [0, 0, 3, 7, 0, 31, 63, 127, 127, 0, 767, 2047]
theorem impl_BringOut.tab15 : rtab .any (opsOf Try.f64 15) = impl_BringOut.T15 := by kernel_rfl
theorem impl_BringOut.bits15 : waitsOk impl_BringOut.T15.2 impl_BringOut.B15 = true := by kernel_rfl
set_option maxHeartbeats 8000000 in
set_option maxRecDepth 100000 in
theorem impl_BringOut.calls (k : Nat) (a0 : Int) (A1 : Option Addr) (c1 : Nat) (l1 : List (S46)) (A2 : Option Addr) (c2 : Nat) (l2 : List (S150)) (a3_0 a3_1 : Int) (r1 : List Int) (r2 r3 r4 : Int) (w : World) (hr1 : Kd.C k46 w A1 l1.length l1) (hc1 : l1.length ≤ c1) (hr2 : Kd.C k150 w A2 l2.length l2) (hc2 : l2.length ≤ c2) (h : impl_BringOut.f k a0 l1 l2 a3_0 a3_1 = some (r1, r2, r3, r4)) :
  Calls Try.prog 64 #[.int .i64 a0, .slice A1 l1.length c1, .slice A2 l2.length c2, .agg #[.int .i64 a3_0, .int .i64 a3_1]] w fun e w' => ∃ v0_ : Value, e = .returned (.tuple #[v0_, .agg #[.int .i64 r2, .int .i64 r3], .int .i64 r4]) ∧ Kd.R (Kd.int .i64) 2 w' w.heap.size (fun _ => True) v0_ r1 ∧ Below w.heap.size w w' := by
 have hu74 := Try.underlying74
 have HR1 := Aside0.mk hr1
 have HC1 := Aside0.mk hc1
 clear hr1 hc1
 have HR2 := Aside0.mk hr2
 have HC2 := Aside0.mk hc2
 clear hr2 hc2
 have HB := Aside0.mk (Below.refl w.heap.size w)
 unfold impl_BringOut.f at h
 have H := h
 clear h
 replace H := oc_ H
 obtain ⟨t481, A5, H⟩ := H
 replace H := ib_ H
 rcases H with ⟨rfl, H⟩ | ⟨rfl, H⟩
 ·replace H := oc_ H
  obtain ⟨⟨t482, t483⟩, A7, H⟩ := H
  replace H := ie_ H
  rcases H with ⟨c8b0, c8b1, H⟩ | ⟨c8, c8b0, c8b1, H⟩
  ·replace H := ib_ H
   rcases H with ⟨rfl, H⟩ | ⟨rfl, H⟩
   ·obtain ⟨y484, hy484⟩ : ∃ y_ : List Int, y_ = (([] : List Int)) := ⟨_, rfl⟩
    replace H : (impl_BringOut.l0 k a0 l1 l2 y484 a3_0 a3_1) = some (r1, r2, r3, r4) := by first | (rw [hy484]; with_reducible exact H) | (have H2_ := (Option.bind_some _ _).symm.trans H; rw [hy484]; with_reducible exact H2_) | (have H2_ := (Option.bind_some _ _).symm.trans H; with_reducible exact H2_) | with_reducible exact H | (rw [hy484]; exact H) | exact H
    have Ny484 := Aside0.mk hy484
    clear hy484
    have H' := Aside0.mk H
    clear H
    go_enter Try.func64, Try.ntmps64
    go_wp2_with (first | ((refine gd_ 7 ?_); refine by_ 7 #[.int .i64 a3_0, .int .i64 a3_1] 74 HB ?_; intro gb479 hg w10 BK479 hb GW479 HB_; replace HB := HB_; clear hb hg) | ((refine gd_ 9 ?_); refine by_ 9 #[.int .i64 0, .int .i64 0] 74 HB ?_; intro gb480 hg w11 BK480 hb GW480 HB_; have NB479_480 := bm_ BK479 hg; have NB480_479 := bn_ BK479 hg; replace BK479 := bb_ BK479 hb; replace HB := HB_; clear hb hg; have hnb12 := NB479_480.out; have hnc12 := NB480_479.out; obtain ⟨hcz13_0, hcz13_1, hfz13_0, hfz13_1⟩ := ch2_ BK479) | ((refine gc_ 140 ?_); refine ge_ 18 Try.func140 #[.agg #[.int .i64 a3_0, .int .i64 a3_1]] ?_; (with_reducible refine (impl_IsEnd.calls k a3_0 a3_1 true _ A5.out).mono ?_); rintro e w14 ⟨rfl, hb⟩; refine ⟨_, rfl, ?_⟩; replace BK479 := bb_ BK479 hb; replace BK480 := bb_ BK480 hb; replace HB := bt_ HB hb; (try clear hb)) | ((refine gc_ 141 ?_); refine ge_ 25 Try.func141 #[.int .i64 a0, .slice A1 l1.length c1, .slice A2 l2.length c2] ?_; (with_reducible refine (impl_freeCode.calls k a0 _ _ l1 _ _ l2 true t483 _ ?side1 ?side2 ?side3 ?side4 A7.out).mono ?_); (case side1 => exact ca_ (Kd.C_below HR1.out HB.out)); (case side2 => exact HC1.out); (case side3 => exact ca_ (Kd.C_below HR2.out HB.out)); (case side4 => exact HC2.out); rintro e w15 ⟨rfl, hb⟩; refine ⟨_, rfl, ?_⟩; replace BK479 := bb_ BK479 hb; replace BK480 := bb_ BK480 hb; replace HB := bt_ HB hb; (try clear hb)) | ((refine gd_ 37 ?_); refine Kd.R_lit (Kd.int .i64) _ 2 ?hg (N := 37) ?hd (xs := ([] : List Int)) (inner := []) (ok := fun _ => True) (okp := fun _ => True) ?hr ?hp (fun _ hk => hk) trivial (Below.refl _ _) (Nat.le_refl _) (by simp) ?_; (case hd => rfl); (case hg => rfl); (case hr => first | (go_simp; done) | (go_simp; rfl)); (case hp => exact (Reps.none _ _)); intro v485 w16 ho17 hb hg_ hnew_; clear hg_ hnew_; (first | rw [← Ny484.out] at ho17 | (simp only [Int.reduceToNat] at ho17; rw [← Ny484.out] at ho17)); have HO486 := Aside0.mk (Kd.R_lower ho17 (below_size (bw_ HB).out)); replace BK479 := bb_ BK479 hb; replace BK480 := bb_ BK480 hb; replace HB := bt_ HB hb; clear hb ho17))
    go_loopg [13] k (fun kq v13 w' => ∃ (x13_1 : List Int) (x480000_1 : Int) (x480001_1 : Int) (x481000_1 : Int) (x481001_1 : Int), Aside0 (impl_BringOut.l0 kq a0 l1 l2 x13_1 x480000_1 x480001_1 = some (r1, r2, r3, r4)) ∧ Aside0 (kq ≤ k) ∧ Aside0 (Kd.R (Kd.int .i64) 2 w' w.heap.size (fun _ => True) v13 x13_1) ∧ Aside0 (w'.heap[gb479]? = some (.cells #[.int .i64 x480000_1, .int .i64 x480001_1] 74 (0, 0))) ∧ Aside0 (w'.heap[gb480]? = some (.cells #[.int .i64 x481000_1, .int .i64 x481001_1] 74 (0, 0))) ∧ Aside0 (Below w.heap.size w w'))
    case atStart => exact ⟨(y484), (a3_0), (a3_1), (0), (0), H', ⟨Nat.le_refl _⟩, ⟨by (with_reducible repeat (first | apply Kd.R_alloc | apply Kd.R_drewN | apply Kd.R_drew)); exact HO486.out⟩, bl_ BK479, bl_ BK480, bw_ HB⟩
    clear H'
    try clear c1
    try clear c2
    try clear c8
    try clear c8b0
    try clear c8b1
    try clear hcz13_0 hcz13_1
    try clear hfz13_0 hfz13_1
    obtain ⟨x13_1, x480000_1, x480001_1, x481000_1, x481001_1, HA, HK1, HO_13, BK479, BK480, HB⟩ := hrel
    cases gk with
    | zero => exact absurd HA.out (by simp [impl_BringOut.l0])
    | succ k1 =>
     have H := HA.out
     clear HA
     simp only [impl_BringOut.l0] at H
     replace H := oc_ H
     obtain ⟨t487, A18, H⟩ := H
     replace H := ie_ H
     rcases H with ⟨c19b0, c19b1, H⟩ | ⟨c19, c19b0, c19b1, H⟩
     ·simp only [Option.some.injEq, Prod.mk.injEq] at H
      obtain ⟨rfl, rfl, rfl, rfl⟩ := H
      have hnb20 := NB479_480.out
      have hnc20 := NB480_479.out
      obtain ⟨hcz21_0, hcz21_1, hfz21_0, hfz21_1⟩ := ch2_ BK479
      try go_wp2_with (first | ((refine gc_ 142 ?_); refine ge_ 41 Try.func142 #[.int .i64 a0, .slice A2 l2.length c2, .agg #[.int .i64 x480000_1, .int .i64 x480001_1]] ?_; (with_reducible refine (impl_sideOf.calls k1 a0 _ _ l2 x480000_1 x480001_1 t487 _ ?side1 ?side2 A18.out).mono ?_); (case side1 => exact ca_ (Kd.C_below HR2.out HB.out)); (case side2 => exact HC2.out); rintro e w22 ⟨rfl, hb⟩; refine ⟨_, rfl, ?_⟩; replace HO_13 := rb_ HO_13 hb; replace BK479 := bb_ BK479 hb; replace BK480 := bb_ BK480 hb; replace HB := bt_ HB hb; (try clear hb)))
      replace HO_13 := Aside0.mk (Kd.R_drew HO_13.out)
      replace BK479 := bd_ BK479
      replace BK480 := bd_ BK480
      replace HB := be_ HB
      refine start_ (n := 5) (S := fun w' => w'.cell? ⟨gb479, 0, none⟩ = some (.int .i64 x480000_1) ∧ w'.cell? ⟨gb479, 1, none⟩ = some (.int .i64 x480001_1)) (ds := []) (bv_ 5 0) (by kernel_rfl) rfl rfl ⟨cz_ BK479 0, cz_ BK479 1⟩ (fun hHeld => ?_)
      generalize w22.drew = w23 at HO_13 BK479 BK480 HB hHeld ⊢
      refine pure_ (i := 0) (N := some 44) (v := ?_) (a' := ?_) (bv_ 5 1) rfl rfl (by kernel_rfl) (fun _ _ _ h => h) (Or.inl ⟨by rfl, ?_⟩) ?_ ?_
      rotate_left
      ·intro w'
       go_simp
       with_reducible rfl
      rotate_left
      ·simp only [Act.put, lstS, lstZ, lstC, i64_w, i32_w]
       rfl
      refine pure_ (i := 2) (N := some 8) (v := ?_) (a' := ?_) (bv_ 5 5) rfl rfl (by kernel_rfl) (fun _ _ _ h => h) (Or.inl ⟨by rfl, ?_⟩) ?_ ?_
      rotate_left
      ·intro w'
       go_simp
       with_reducible rfl
      rotate_left
      ·simp only [Act.put, lstS, lstZ, lstC, i64_w, i32_w]
       rfl
      refine take_ (i := 1) (N := some 45) (v := ?_) (a' := ?_) (bv_ 5 7) rfl rfl (by kernel_rfl) (fun _ _ _ h => h) (Or.inl ⟨by rfl, ?_⟩) hHeld ?_ ?_
      rotate_left
      ·rintro w' ⟨s0, s1⟩
       go_simp
       with_reducible rfl
      rotate_left
      ·simp only [Act.put, lstS, lstZ, lstC, i64_w, i32_w]
       rfl
      refine one_ (i := 3) (N := none) (bv_ 5 15) rfl rfl (by kernel_rfl) (by decide) (fun K hK => ?_)
      have hs24 : w23.cell? ⟨gb480, 0, none⟩ = some (.int .i64 x481000_1) := (blk_cell BK480.out 0).trans rfl
      have hfs24 := blk_frozen BK480.out 0
      have hns24_0 := NB479_480.out
      have hms24_0 := NB480_479.out
      have hs25 : w23.cell? ⟨gb480, 1, none⟩ = some (.int .i64 x481001_1) := (blk_cell BK480.out 1).trans rfl
      have hfs25 := blk_frozen BK480.out 1
      have hns25_0 := NB479_480.out
      have hms25_0 := NB480_479.out
      refine skip_ (w1 := ?_) (by rfl) rfl ?_ ?_
      rotate_left
      ·go_simp
       rfl
      refine hK.out _ _ ⟨(cg_ NB479_480 ((cg_ NB479_480 (hHeld.1)))), (cg_ NB479_480 ((cg_ NB479_480 (hHeld.2))))⟩ (fun hHeld => ?_)
      clear hK K
      refine pure_ (i := 4) (N := some 10) (v := ?_) (a' := ?_) (bv_ 5 31) rfl rfl (by kernel_rfl) (fun _ _ _ h => h) (Or.inl ⟨by rfl, ?_⟩) ?_ ?_
      rotate_left
      ·intro w'
       go_simp
       with_reducible rfl
      rotate_left
      ·simp only [Act.put, lstS, lstZ, lstC, i64_w, i32_w]
       rfl
      refine done_ (by kernel_rfl) ?_
      try go_wp2
      refine bodyPost_ret (results_list (rs := [.tmp 8, .cell 9 74, .tmp 10]) rfl (by simp) (.tmp (.cell gb480 74 #[.int .i64 x480000_1, .int .i64 x480001_1] (0, 0) _ rfl (bp_ BK480).out Try.underlying74 rfl (by kernel_rfl) (.tmp .nil)))) rfl ?_
      exact ⟨_, es_, by (with_reducible repeat (first | apply Kd.R_alloc | apply Kd.R_drewN | apply Kd.R_drew)); exact Kd.R_mono (Kd.R_far (p := ⟨gb480, 1, none⟩) (Kd.R_far (p := ⟨gb480, 0, none⟩) (Kd.R_types HO_13.out BK480.out (by decide)) (fun _ hk => hk.2) (.int .i64 x480000_1)) (fun _ hk => hk.2) (.int .i64 x480001_1)) (fun _ hk => trivial), (bw_ HB).out⟩
     replace H := ie_ H
     rcases H with ⟨c26b0, c26b1, H⟩ | ⟨c26, c26b0, c26b1, H⟩
     ·simp only [Option.some.injEq, Prod.mk.injEq] at H
      obtain ⟨rfl, rfl, rfl, rfl⟩ := H
      have hnb27 := NB479_480.out
      have hnc27 := NB480_479.out
      obtain ⟨hcz28_0, hcz28_1, hfz28_0, hfz28_1⟩ := ch2_ BK479
      go_wp2_with (first | ((refine gc_ 142 ?_); refine ge_ 41 Try.func142 #[.int .i64 a0, .slice A2 l2.length c2, .agg #[.int .i64 x480000_1, .int .i64 x480001_1]] ?_; (with_reducible refine (impl_sideOf.calls k1 a0 _ _ l2 x480000_1 x480001_1 t487 _ ?side1 ?side2 A18.out).mono ?_); (case side1 => exact ca_ (Kd.C_below HR2.out HB.out)); (case side2 => exact HC2.out); rintro e w29 ⟨rfl, hb⟩; refine ⟨_, rfl, ?_⟩; replace HO_13 := rb_ HO_13 hb; replace BK479 := bb_ BK479 hb; replace BK480 := bb_ BK480 hb; replace HB := bt_ HB hb; (try clear hb); obtain ⟨Ao30, co30, eo30⟩ := Kd.R_slice HO_13.out; subst eo30; obtain ⟨hcz31_0, hcz31_1, hfz31_0, hfz31_1⟩ := ch2_ BK480))
      refine bodyPost_ret (results_list (rs := [.tmp 8, .cell 9 74, .tmp 10]) rfl (by simp) (.tmp (.cell gb480 74 #[.int .i64 0, .int .i64 0] (0, 0) _ rfl (bp_ BK480).out Try.underlying74 rfl (by kernel_rfl) (.tmp .nil)))) rfl ?_
      exact ⟨_, es_, by first | exact Kd.R_nil _ _ _ _ _ | exact Kd.N_nil _ _ _ _ _ | exact Kd.V_nil _ _ _ _ _ | exact Kd.Q_nil _ _ _ _ _ | exact Kd.S_nil _ _ _ _ _, (bw_ HB).out⟩
     by_cases c32 : x13_1.length < 17592186044416
     ·rw [if_pos c32] at H
      have LMc32 := Aside0.mk c32
      clear c32
      obtain ⟨y488, hy488⟩ : ∃ y_ : List Int, y_ = (x13_1 ++ [t487]) := ⟨_, rfl⟩
      replace H : ((impl_letterMatrix.f k1 l1 t487).bind fun bt491 => ((impl_inverted.f k1 bt491.1 bt491.2.1 bt491.2.2.1 bt491.2.2.2).bind fun bt495 => ((impl_moveEnd.f k1 bt495.1 bt495.2.1 bt495.2.2.1 bt495.2.2.2 x480000_1 x480001_1).bind fun bt499 => (if bt499.2.2 = true then (impl_BringOut.l0 k1 a0 l1 l2 y488 bt499.1 bt499.2.1) else (some (([] : List Int), 0, 0, 3)))))) = some (r1, r2, r3, r4) := by first | (rw [hy488]; with_reducible exact H) | (have H2_ := (Option.bind_some _ _).symm.trans H; rw [hy488]; with_reducible exact H2_) | (have H2_ := (Option.bind_some _ _).symm.trans H; with_reducible exact H2_) | with_reducible exact H | (rw [hy488]; exact H) | exact H
      have Ny488 := Aside0.mk hy488
      clear hy488
      replace H := oc_ H
      obtain ⟨⟨t491, t492, t493, t494⟩, A33, H⟩ := H
      replace H := oc_ H
      obtain ⟨⟨t495, t496, t497, t498⟩, A34, H⟩ := H
      replace H := oc_ H
      obtain ⟨⟨t499, t500, t501⟩, A35, H⟩ := H
      replace H := ib_ H
      rcases H with ⟨rfl, H⟩ | ⟨rfl, H⟩
      ·have H' := Aside0.mk H
       clear H
       have hnb37 := NB479_480.out
       have hnc37 := NB480_479.out
       obtain ⟨hcz38_0, hcz38_1, hfz38_0, hfz38_1⟩ := ch2_ BK479
       try go_wp2_with (first | ((refine gc_ 142 ?_); refine ge_ 41 Try.func142 #[.int .i64 a0, .slice A2 l2.length c2, .agg #[.int .i64 x480000_1, .int .i64 x480001_1]] ?_; (with_reducible refine (impl_sideOf.calls k1 a0 _ _ l2 x480000_1 x480001_1 t487 _ ?side1 ?side2 A18.out).mono ?_); (case side1 => exact ca_ (Kd.C_below HR2.out HB.out)); (case side2 => exact HC2.out); rintro e w39 ⟨rfl, hb⟩; refine ⟨_, rfl, ?_⟩; replace HO_13 := rb_ HO_13 hb; replace BK479 := bb_ BK479 hb; replace BK480 := bb_ BK480 hb; replace HB := bt_ HB hb; (try clear hb); obtain ⟨Ao40, co40, eo40⟩ := Kd.R_slice HO_13.out; subst eo40) | ((with_reducible refine gate_builtin (b := .append) (xs := #[.tmp 50, .tmp 52]) rfl ?_); at_builtin; refine Kd.R_append (Kd.int .i64) (w0 := w) w.heap.size rfl (.tmp 50) (.tmp 52) 41 2 (.int .i64 0) 8 rfl Try.underlying41 info2 rfl (by decide) (by omega) (.slice Ao40 x13_1.length co40) x13_1 t487 [.int .i64 t487] (fun _ => True) (fun _ => False) rfl rfl ?aP (fun _ hk => hk.elim) ?aF ?aO ?aB ?aS ?aL ?_; (case aP => exact rfl); (case aB => exact (bw_ HB).out); (case aF => exact (fun _ _ => trivial)); (case aO => exact (ra_ HO_13.out)); (case aS => exact (below_size (bw_ HB).out)); (case aL => have := LMc32.out; omega); intro v489 w41 ho hb hg hat; rw [← Ny488.out] at ho; have n0_ := Aside0.mk (blk_grown (g := gb479) (o := .cells #[.int .i64 x480000_1, .int .i64 x480001_1] 74 (0, 0)) (bl_ BK479).out hg (Kd.R_ne HO_13.out BK479.out (by decide))); have n1_ := Aside0.mk (blk_grown (g := gb480) (o := .cells #[.int .i64 x481000_1, .int .i64 x481001_1] 74 (0, 0)) (bl_ BK480).out hg (Kd.R_ne HO_13.out BK480.out (by decide))); have n2_ := Aside0.mk (hb); have n3_ := Aside0.mk (ho); clear BK479; clear BK480; clear HB; clear HO_13; have BK479 := n0_; have BK480 := n1_; have HB := n2_; have HO490 := n3_; clear n0_ n1_ n2_ n3_; clear ho hb hg hat))
       replace HO490 := Aside0.mk (Kd.R_drew HO490.out)
       replace BK479 := bd_ BK479
       replace BK480 := bd_ BK480
       replace HB := be_ HB
       refine start_ (n := 12) (S := fun w' => w'.cell? ⟨gb479, 0, none⟩ = some (.int .i64 x480000_1) ∧ w'.cell? ⟨gb479, 1, none⟩ = some (.int .i64 x480001_1)) (ds := []) (bv_ 12 0) (by kernel_rfl) rfl rfl ⟨cz_ BK479 0, cz_ BK479 1⟩ (fun hHeld => ?_); refine with_tabW impl_BringOut.tab15 impl_BringOut.bits15 (fun HT_ HW_ => ?_)
       generalize w41.drew = w42 at HO490 BK479 BK480 HB hHeld ⊢
       refine px_ HT_ 0 55 1 ?_
       refine px_ HT_ 1 56 3 ?_
       refine ta_ HT_ HW_ 4 (some 59) (bv_ 12 19) hHeld ?_ (hy := by rintro w' ⟨s0, s1⟩; go_simp; with_reducible rfl)
       refine join_ (σ := Nat) 2 (bv_ 12 1023) (fun s_ => [(57, .agg #[.int .i64 t491, .int .i64 t492, .int .i64 t493, .int .i64 t494]), (58, .agg #[.int .i64 t495, .int .i64 t496, .int .i64 t497, .int .i64 t498]), (60, .tuple #[.agg #[.int .i64 t499, .int .i64 t500], .bool true]), (15, .pointer (some ⟨s_, 0, none⟩)), (54, .tuple #[.agg #[.int .i64 t499, .int .i64 t500], .bool true]), (61, .agg #[.int .i64 t499, .int .i64 t500]), (62, .bool true)]) (fun s_ w' => (w'.cell? ⟨gb479, 0, none⟩ = some (.int .i64 x480000_1) ∧ w'.cell? ⟨gb479, 1, none⟩ = some (.int .i64 x480001_1)) ∧ (Kd.R (Kd.int .i64) 2 w' w.heap.size (fun _ => True) v489 y488) ∧ (w'.heap[gb479]? = some (.cells #[.int .i64 x480000_1, .int .i64 x480001_1] 74 (0, 0))) ∧ (w'.heap[gb480]? = some (.cells #[.int .i64 x481000_1, .int .i64 x481001_1] 74 (0, 0))) ∧ (w'.heap[s_]? = some (.cells #[.int .i64 0, .int .i64 0] 74 (0, 0))) ∧ (w.heap.size ≤ s_) ∧ (w.heap.size ≤ s_) ∧ (gb479 ≠ s_) ∧ (s_ ≠ gb479) ∧ (gb480 ≠ s_) ∧ (s_ ≠ gb480) ∧ (Below w.heap.size w w')) ?_ ?_
       rotate_left
       ·intro hCont
        refine tw_ HT_ 2 9 (some 57) (some 15) (bv_ 12 23) (bv_ 12 531) (fun K hK => ?_) (fun K hK => ?_)
        ·skip
         refine gs_ Try.func144 #[.slice A1 l1.length c1, .int .i64 t487] ?_
         with_reducible refine (impl_letterMatrix.calls k1 _ _ l1 t487 t491 t492 t493 t494 _ ?side1 ?side2 A33.out).mono ?_
         (case side1 => exact ca_ (Kd.C_below HR1.out HB.out))
         (case side2 => exact HC1.out)
         rintro e w43 ⟨rfl, hb⟩
         refine ⟨_, rfl, ?_⟩
         replace HO490 := rb_ HO490 hb
         replace BK479 := bb_ BK479 hb
         replace BK480 := bb_ BK480 hb
         replace HB := bt_ HB hb
         try clear hb
         refine hK.out _ _ ⟨cz_ BK479 0, cz_ BK479 1⟩ (fun hHeld => ?_)
         clear hK K
         refine nm_ (some 57) ?_
         refine tw_ HT_ 3 9 (some 58) (some 15) (bv_ 12 31) (bv_ 12 535) (fun K hK => ?_) (fun K hK => ?_)
         ·skip
          refine gs_ Try.func97 #[.agg #[.int .i64 t491, .int .i64 t492, .int .i64 t493, .int .i64 t494]] ?_
          with_reducible refine (impl_inverted.calls k1 t491 t492 t493 t494 t495 t496 t497 t498 _ A34.out).mono ?_
          rintro e w44 ⟨rfl, hb⟩
          refine ⟨_, rfl, ?_⟩
          replace HO490 := rb_ HO490 hb
          replace BK479 := bb_ BK479 hb
          replace BK480 := bb_ BK480 hb
          replace HB := bt_ HB hb
          try clear hb
          refine hK.out _ _ ⟨cz_ BK479 0, cz_ BK479 1⟩ (fun hHeld => ?_)
          clear hK K
          refine nm_ (some 58) ?_
          refine tw_ HT_ 5 9 (some 60) (some 15) (bv_ 12 63) (bv_ 12 543) (fun K hK => ?_) (fun K hK => ?_)
          ·skip
           refine gs_ Try.func143 #[.agg #[.int .i64 t495, .int .i64 t496, .int .i64 t497, .int .i64 t498], .agg #[.int .i64 x480000_1, .int .i64 x480001_1]] ?_
           with_reducible refine (impl_moveEnd.calls k1 t495 t496 t497 t498 x480000_1 x480001_1 t499 t500 true _ A35.out).mono ?_
           rintro e w45 ⟨rfl, hb⟩
           refine ⟨_, rfl, ?_⟩
           replace HO490 := rb_ HO490 hb
           replace BK479 := bb_ BK479 hb
           replace BK480 := bb_ BK480 hb
           replace HB := bt_ HB hb
           try clear hb
           refine hK.out _ _ ⟨cz_ BK479 0, cz_ BK479 1⟩ (fun hHeld => ?_)
           clear hK K
           refine nm_ (some 60) ?_
           refine px_ HT_ 6 54 127 ?_
           refine px_ HT_ 7 61 255 ?_
           refine px_ HT_ 8 62 511 ?_
           refine on_ HT_ 9 (some 15) (bv_ 12 1023) (fun K hK => ?_)
           refine bz_ 15 #[.int .i64 0, .int .i64 0] 74 ?_
           intro gb502 hg w46 BK502 hb
           have GW502 := bs_ HB hg
           have NB479_502 := bm_ BK479 hg
           have NB502_479 := bn_ BK479 hg
           have NB480_502 := bm_ BK480 hg
           have NB502_480 := bn_ BK480 hg
           replace HO490 := rb_ HO490 hb
           replace BK479 := bb_ BK479 hb
           replace BK480 := bb_ BK480 hb
           replace HB := bt_ HB hb
           clear hb hg
           refine hK.out _ _ ⟨cz_ BK479 0, cz_ BK479 1⟩ (fun hHeld => ?_)
           clear hK K
           refine nm_ (some 15) ?_
           exact norm_ (by simp only [putAll, Act.put, lstS, lstZ, lstC]) (hCont (gb502) _ ⟨hHeld, (ra_ HO490.out), (bl_ BK479).out, (bl_ BK480).out, (bl_ BK502).out, GW502.out, GW502.out, NB479_502.out, NB502_479.out, NB480_502.out, NB502_480.out, (bw_ HB).out⟩)
          skip
          refine bz_ 15 #[.int .i64 0, .int .i64 0] 74 ?_
          intro gb502 hg w45 BK502 hb
          have GW502 := bs_ HB hg
          have NB479_502 := bm_ BK479 hg
          have NB502_479 := bn_ BK479 hg
          have NB480_502 := bm_ BK480 hg
          have NB502_480 := bn_ BK480 hg
          replace HO490 := rb_ HO490 hb
          replace BK479 := bb_ BK479 hb
          replace BK480 := bb_ BK480 hb
          replace HB := bt_ HB hb
          clear hb hg
          refine hK.out _ _ ⟨cz_ BK479 0, cz_ BK479 1⟩ (fun hHeld => ?_)
          clear hK K
          refine nm_ (some 15) ?_
          refine on_ HT_ 5 (some 60) (bv_ 12 575) (fun K hK => ?_)
          refine gs_ Try.func143 #[.agg #[.int .i64 t495, .int .i64 t496, .int .i64 t497, .int .i64 t498], .agg #[.int .i64 x480000_1, .int .i64 x480001_1]] ?_
          with_reducible refine (impl_moveEnd.calls k1 t495 t496 t497 t498 x480000_1 x480001_1 t499 t500 true _ A35.out).mono ?_
          rintro e w46 ⟨rfl, hb⟩
          refine ⟨_, rfl, ?_⟩
          replace HO490 := rb_ HO490 hb
          replace BK479 := bb_ BK479 hb
          replace BK480 := bb_ BK480 hb
          replace BK502 := bb_ BK502 hb
          replace HB := bt_ HB hb
          try clear hb
          refine hK.out _ _ ⟨cz_ BK479 0, cz_ BK479 1⟩ (fun hHeld => ?_)
          clear hK K
          refine nm_ (some 60) ?_
          refine px_ HT_ 6 54 639 ?_
          refine px_ HT_ 7 61 767 ?_
          refine px_ HT_ 8 62 1023 ?_
          exact norm_ (by simp only [putAll, Act.put, lstS, lstZ, lstC]) (hCont (gb502) _ ⟨hHeld, (ra_ HO490.out), (bl_ BK479).out, (bl_ BK480).out, (bl_ BK502).out, GW502.out, GW502.out, NB479_502.out, NB502_479.out, NB480_502.out, NB502_480.out, (bw_ HB).out⟩)
         skip
         refine bz_ 15 #[.int .i64 0, .int .i64 0] 74 ?_
         intro gb502 hg w44 BK502 hb
         have GW502 := bs_ HB hg
         have NB479_502 := bm_ BK479 hg
         have NB502_479 := bn_ BK479 hg
         have NB480_502 := bm_ BK480 hg
         have NB502_480 := bn_ BK480 hg
         replace HO490 := rb_ HO490 hb
         replace BK479 := bb_ BK479 hb
         replace BK480 := bb_ BK480 hb
         replace HB := bt_ HB hb
         clear hb hg
         refine hK.out _ _ ⟨cz_ BK479 0, cz_ BK479 1⟩ (fun hHeld => ?_)
         clear hK K
         refine nm_ (some 15) ?_
         refine on_ HT_ 3 (some 58) (bv_ 12 543) (fun K hK => ?_)
         refine gs_ Try.func97 #[.agg #[.int .i64 t491, .int .i64 t492, .int .i64 t493, .int .i64 t494]] ?_
         with_reducible refine (impl_inverted.calls k1 t491 t492 t493 t494 t495 t496 t497 t498 _ A34.out).mono ?_
         rintro e w45 ⟨rfl, hb⟩
         refine ⟨_, rfl, ?_⟩
         replace HO490 := rb_ HO490 hb
         replace BK479 := bb_ BK479 hb
         replace BK480 := bb_ BK480 hb
         replace BK502 := bb_ BK502 hb
         replace HB := bt_ HB hb
         try clear hb
         refine hK.out _ _ ⟨cz_ BK479 0, cz_ BK479 1⟩ (fun hHeld => ?_)
         clear hK K
         refine nm_ (some 58) ?_
         refine on_ HT_ 5 (some 60) (bv_ 12 575) (fun K hK => ?_)
         refine gs_ Try.func143 #[.agg #[.int .i64 t495, .int .i64 t496, .int .i64 t497, .int .i64 t498], .agg #[.int .i64 x480000_1, .int .i64 x480001_1]] ?_
         with_reducible refine (impl_moveEnd.calls k1 t495 t496 t497 t498 x480000_1 x480001_1 t499 t500 true _ A35.out).mono ?_
         rintro e w46 ⟨rfl, hb⟩
         refine ⟨_, rfl, ?_⟩
         replace HO490 := rb_ HO490 hb
         replace BK479 := bb_ BK479 hb
         replace BK480 := bb_ BK480 hb
         replace BK502 := bb_ BK502 hb
         replace HB := bt_ HB hb
         try clear hb
         refine hK.out _ _ ⟨cz_ BK479 0, cz_ BK479 1⟩ (fun hHeld => ?_)
         clear hK K
         refine nm_ (some 60) ?_
         refine px_ HT_ 6 54 639 ?_
         refine px_ HT_ 7 61 767 ?_
         refine px_ HT_ 8 62 1023 ?_
         exact norm_ (by simp only [putAll, Act.put, lstS, lstZ, lstC]) (hCont (gb502) _ ⟨hHeld, (ra_ HO490.out), (bl_ BK479).out, (bl_ BK480).out, (bl_ BK502).out, GW502.out, GW502.out, NB479_502.out, NB502_479.out, NB480_502.out, NB502_480.out, (bw_ HB).out⟩)
        skip
        refine bz_ 15 #[.int .i64 0, .int .i64 0] 74 ?_
        intro gb502 hg w43 BK502 hb
        have GW502 := bs_ HB hg
        have NB479_502 := bm_ BK479 hg
        have NB502_479 := bn_ BK479 hg
        have NB480_502 := bm_ BK480 hg
        have NB502_480 := bn_ BK480 hg
        replace HO490 := rb_ HO490 hb
        replace BK479 := bb_ BK479 hb
        replace BK480 := bb_ BK480 hb
        replace HB := bt_ HB hb
        clear hb hg
        refine hK.out _ _ ⟨cz_ BK479 0, cz_ BK479 1⟩ (fun hHeld => ?_)
        clear hK K
        refine nm_ (some 15) ?_
        refine on_ HT_ 2 (some 57) (bv_ 12 535) (fun K hK => ?_)
        refine gs_ Try.func144 #[.slice A1 l1.length c1, .int .i64 t487] ?_
        with_reducible refine (impl_letterMatrix.calls k1 _ _ l1 t487 t491 t492 t493 t494 _ ?side1 ?side2 A33.out).mono ?_
        (case side1 => exact ca_ (Kd.C_below HR1.out HB.out))
        (case side2 => exact HC1.out)
        rintro e w44 ⟨rfl, hb⟩
        refine ⟨_, rfl, ?_⟩
        replace HO490 := rb_ HO490 hb
        replace BK479 := bb_ BK479 hb
        replace BK480 := bb_ BK480 hb
        replace BK502 := bb_ BK502 hb
        replace HB := bt_ HB hb
        try clear hb
        refine hK.out _ _ ⟨cz_ BK479 0, cz_ BK479 1⟩ (fun hHeld => ?_)
        clear hK K
        refine nm_ (some 57) ?_
        refine on_ HT_ 3 (some 58) (bv_ 12 543) (fun K hK => ?_)
        refine gs_ Try.func97 #[.agg #[.int .i64 t491, .int .i64 t492, .int .i64 t493, .int .i64 t494]] ?_
        with_reducible refine (impl_inverted.calls k1 t491 t492 t493 t494 t495 t496 t497 t498 _ A34.out).mono ?_
        rintro e w45 ⟨rfl, hb⟩
        refine ⟨_, rfl, ?_⟩
        replace HO490 := rb_ HO490 hb
        replace BK479 := bb_ BK479 hb
        replace BK480 := bb_ BK480 hb
        replace BK502 := bb_ BK502 hb
        replace HB := bt_ HB hb
        try clear hb
        refine hK.out _ _ ⟨cz_ BK479 0, cz_ BK479 1⟩ (fun hHeld => ?_)
        clear hK K
        refine nm_ (some 58) ?_
        refine on_ HT_ 5 (some 60) (bv_ 12 575) (fun K hK => ?_)
        refine gs_ Try.func143 #[.agg #[.int .i64 t495, .int .i64 t496, .int .i64 t497, .int .i64 t498], .agg #[.int .i64 x480000_1, .int .i64 x480001_1]] ?_
        with_reducible refine (impl_moveEnd.calls k1 t495 t496 t497 t498 x480000_1 x480001_1 t499 t500 true _ A35.out).mono ?_
        rintro e w46 ⟨rfl, hb⟩
        refine ⟨_, rfl, ?_⟩
        replace HO490 := rb_ HO490 hb
        replace BK479 := bb_ BK479 hb
        replace BK480 := bb_ BK480 hb
        replace BK502 := bb_ BK502 hb
        replace HB := bt_ HB hb
        try clear hb
        refine hK.out _ _ ⟨cz_ BK479 0, cz_ BK479 1⟩ (fun hHeld => ?_)
        clear hK K
        refine nm_ (some 60) ?_
        refine px_ HT_ 6 54 639 ?_
        refine px_ HT_ 7 61 767 ?_
        refine px_ HT_ 8 62 1023 ?_
        exact norm_ (by simp only [putAll, Act.put, lstS, lstZ, lstC]) (hCont (gb502) _ ⟨hHeld, (ra_ HO490.out), (bl_ BK479).out, (bl_ BK480).out, (bl_ BK502).out, GW502.out, GW502.out, NB479_502.out, NB502_479.out, NB480_502.out, NB502_480.out, (bw_ HB).out⟩)
       rintro gb502 w47 ⟨hS_, h0_, h1_, h2_, h3_, h4_, h5_, h6_, h7_, h8_, h9_, h10_⟩
       clear HO490 BK479 BK480 HB
       have HO490 := Aside0.mk h0_
       have BK479 := Aside0.mk h1_
       have BK480 := Aside0.mk h2_
       have BK502 := Aside0.mk h3_
       have GW502 := Aside0.mk h4_
       have GW502 := Aside0.mk h5_
       have NB479_502 := Aside0.mk h6_
       have NB502_479 := Aside0.mk h7_
       have NB480_502 := Aside0.mk h8_
       have NB502_480 := Aside0.mk h9_
       have HB := Aside0.mk h10_
       clear h0_ h1_ h2_ h3_ h4_ h5_ h6_ h7_ h8_ h9_ h10_
       have hHeld : w47.cell? ⟨gb479, 0, none⟩ = some (.int .i64 x480000_1) ∧ w47.cell? ⟨gb479, 1, none⟩ = some (.int .i64 x480001_1) := hS_
       refine norm_ (a' := ?_) ?_ ?_
       rotate_left
       ·simp only [putAll, Act.put, lstS, lstZ, lstC]
        rfl
       refine on_ HT_ 10 none (bv_ 12 2047) (fun K hK => ?_)
       have hs48 : w47.cell? ⟨gb502, 0, none⟩ = some (.int .i64 0) := (blk_cell BK502.out 0).trans rfl
       have hfs48 := blk_frozen BK502.out 0
       have hns48_0 := NB479_502.out
       have hns48_1 := NB480_502.out
       have hms48_0 := NB502_479.out
       have hms48_1 := NB502_480.out
       have hs49 : w47.cell? ⟨gb502, 1, none⟩ = some (.int .i64 0) := (blk_cell BK502.out 1).trans rfl
       have hfs49 := blk_frozen BK502.out 1
       have hns49_0 := NB479_502.out
       have hns49_1 := NB480_502.out
       have hms49_0 := NB502_479.out
       have hms49_1 := NB502_480.out
       refine skip_ (w1 := ?_) (by rfl) rfl ?_ ?_
       rotate_left
       ·go_simp
        rfl
       refine hK.out _ _ ⟨(cg_ NB479_502 ((cg_ NB479_502 (hHeld.1)))), (cg_ NB479_502 ((cg_ NB479_502 (hHeld.2))))⟩ (fun hHeld => ?_)
       clear hK K
       refine px_ HT_ 11 16 4095 ?_
       refine done_ (done_of HT_.out (by kernel_rfl)) ?_
       have hnb50 := NB502_479.out
       have hnc50 := NB479_502.out
       have hnb51 := NB502_480.out
       have hnc51 := NB480_502.out
       obtain ⟨hcz52_0, hcz52_1, hfz52_0, hfz52_1⟩ := ch2_ BK502
       obtain ⟨hcz53_0, hcz53_1, hfz53_0, hfz53_1⟩ := ch2_ BK479
       try go_wp2
       go_roundg k1
       case measure => have := HK1.out; omega
       case rel => exact ⟨(y488), (t499), (t500), (x481000_1), (x481001_1), H', ⟨by have := HK1.out; omega⟩, ⟨by (with_reducible repeat (first | apply Kd.R_alloc | apply Kd.R_drewN | apply Kd.R_drew)); exact Kd.R_mono (Kd.R_far (p := ⟨gb479, 1, none⟩) (Kd.R_far (p := ⟨gb479, 0, none⟩) (Kd.R_far (p := ⟨gb502, 1, none⟩) (Kd.R_far (p := ⟨gb502, 0, none⟩) (Kd.R_types (Kd.R_types HO490.out BK502.out (by decide)) BK479.out (by decide)) (fun _ hk => hk.1.2) (.int .i64 t499)) (fun _ hk => hk.1.2) (.int .i64 t500)) (fun _ hk => hk.2) (.int .i64 t499)) (fun _ hk => hk.2) (.int .i64 t500)) (fun _ hk => trivial)⟩, bp_ BK479, bp_ BK480, bw_ HB⟩
      simp only [Option.some.injEq, Prod.mk.injEq] at H
      obtain ⟨rfl, rfl, rfl, rfl⟩ := H
      have hnb54 := NB479_480.out
      have hnc54 := NB480_479.out
      obtain ⟨hcz55_0, hcz55_1, hfz55_0, hfz55_1⟩ := ch2_ BK479
      try go_wp2_with (first | ((refine gc_ 142 ?_); refine ge_ 41 Try.func142 #[.int .i64 a0, .slice A2 l2.length c2, .agg #[.int .i64 x480000_1, .int .i64 x480001_1]] ?_; (with_reducible refine (impl_sideOf.calls k1 a0 _ _ l2 x480000_1 x480001_1 t487 _ ?side1 ?side2 A18.out).mono ?_); (case side1 => exact ca_ (Kd.C_below HR2.out HB.out)); (case side2 => exact HC2.out); rintro e w56 ⟨rfl, hb⟩; refine ⟨_, rfl, ?_⟩; replace HO_13 := rb_ HO_13 hb; replace BK479 := bb_ BK479 hb; replace BK480 := bb_ BK480 hb; replace HB := bt_ HB hb; (try clear hb); obtain ⟨Ao57, co57, eo57⟩ := Kd.R_slice HO_13.out; subst eo57) | ((with_reducible refine gate_builtin (b := .append) (xs := #[.tmp 50, .tmp 52]) rfl ?_); at_builtin; refine Kd.R_append (Kd.int .i64) (w0 := w) w.heap.size rfl (.tmp 50) (.tmp 52) 41 2 (.int .i64 0) 8 rfl Try.underlying41 info2 rfl (by decide) (by omega) (.slice Ao57 x13_1.length co57) x13_1 t487 [.int .i64 t487] (fun _ => True) (fun _ => False) rfl rfl ?aP (fun _ hk => hk.elim) ?aF ?aO ?aB ?aS ?aL ?_; (case aP => exact rfl); (case aB => exact (bw_ HB).out); (case aF => exact (fun _ _ => trivial)); (case aO => exact (ra_ HO_13.out)); (case aS => exact (below_size (bw_ HB).out)); (case aL => have := LMc32.out; omega); intro v489 w58 ho hb hg hat; rw [← Ny488.out] at ho; have n0_ := Aside0.mk (blk_grown (g := gb479) (o := .cells #[.int .i64 x480000_1, .int .i64 x480001_1] 74 (0, 0)) (bl_ BK479).out hg (Kd.R_ne HO_13.out BK479.out (by decide))); have n1_ := Aside0.mk (blk_grown (g := gb480) (o := .cells #[.int .i64 x481000_1, .int .i64 x481001_1] 74 (0, 0)) (bl_ BK480).out hg (Kd.R_ne HO_13.out BK480.out (by decide))); have n2_ := Aside0.mk (hb); have n3_ := Aside0.mk (ho); clear BK479; clear BK480; clear HB; clear HO_13; have BK479 := n0_; have BK480 := n1_; have HB := n2_; have HO490 := n3_; clear n0_ n1_ n2_ n3_; clear ho hb hg hat))
      replace HO490 := Aside0.mk (Kd.R_drew HO490.out)
      replace BK479 := bd_ BK479
      replace BK480 := bd_ BK480
      replace HB := be_ HB
      refine start_ (n := 12) (S := fun w' => w'.cell? ⟨gb479, 0, none⟩ = some (.int .i64 x480000_1) ∧ w'.cell? ⟨gb479, 1, none⟩ = some (.int .i64 x480001_1)) (ds := []) (bv_ 12 0) (by kernel_rfl) rfl rfl ⟨cz_ BK479 0, cz_ BK479 1⟩ (fun hHeld => ?_); refine with_tabW impl_BringOut.tab15 impl_BringOut.bits15 (fun HT_ HW_ => ?_)
      generalize w58.drew = w59 at HO490 BK479 BK480 HB hHeld ⊢
      refine px_ HT_ 0 55 1 ?_
      refine px_ HT_ 1 56 3 ?_
      refine ta_ HT_ HW_ 4 (some 59) (bv_ 12 19) hHeld ?_ (hy := by rintro w' ⟨s0, s1⟩; go_simp; with_reducible rfl)
      refine join_ (σ := Nat) 2 (bv_ 12 1023) (fun s_ => [(57, .agg #[.int .i64 t491, .int .i64 t492, .int .i64 t493, .int .i64 t494]), (58, .agg #[.int .i64 t495, .int .i64 t496, .int .i64 t497, .int .i64 t498]), (60, .tuple #[.agg #[.int .i64 t499, .int .i64 t500], .bool false]), (15, .pointer (some ⟨s_, 0, none⟩)), (54, .tuple #[.agg #[.int .i64 t499, .int .i64 t500], .bool false]), (61, .agg #[.int .i64 t499, .int .i64 t500]), (62, .bool false)]) (fun s_ w' => (w'.cell? ⟨gb479, 0, none⟩ = some (.int .i64 x480000_1) ∧ w'.cell? ⟨gb479, 1, none⟩ = some (.int .i64 x480001_1)) ∧ (Kd.R (Kd.int .i64) 2 w' w.heap.size (fun _ => True) v489 y488) ∧ (w'.heap[gb479]? = some (.cells #[.int .i64 x480000_1, .int .i64 x480001_1] 74 (0, 0))) ∧ (w'.heap[gb480]? = some (.cells #[.int .i64 x481000_1, .int .i64 x481001_1] 74 (0, 0))) ∧ (w'.heap[s_]? = some (.cells #[.int .i64 0, .int .i64 0] 74 (0, 0))) ∧ (w.heap.size ≤ s_) ∧ (w.heap.size ≤ s_) ∧ (gb479 ≠ s_) ∧ (s_ ≠ gb479) ∧ (gb480 ≠ s_) ∧ (s_ ≠ gb480) ∧ (Below w.heap.size w w')) ?_ ?_
      rotate_left
      ·intro hCont
       refine tw_ HT_ 2 9 (some 57) (some 15) (bv_ 12 23) (bv_ 12 531) (fun K hK => ?_) (fun K hK => ?_)
       ·skip
        refine gs_ Try.func144 #[.slice A1 l1.length c1, .int .i64 t487] ?_
        with_reducible refine (impl_letterMatrix.calls k1 _ _ l1 t487 t491 t492 t493 t494 _ ?side1 ?side2 A33.out).mono ?_
        (case side1 => exact ca_ (Kd.C_below HR1.out HB.out))
        (case side2 => exact HC1.out)
        rintro e w60 ⟨rfl, hb⟩
        refine ⟨_, rfl, ?_⟩
        replace HO490 := rb_ HO490 hb
        replace BK479 := bb_ BK479 hb
        replace BK480 := bb_ BK480 hb
        replace HB := bt_ HB hb
        try clear hb
        refine hK.out _ _ ⟨cz_ BK479 0, cz_ BK479 1⟩ (fun hHeld => ?_)
        clear hK K
        refine nm_ (some 57) ?_
        refine tw_ HT_ 3 9 (some 58) (some 15) (bv_ 12 31) (bv_ 12 535) (fun K hK => ?_) (fun K hK => ?_)
        ·skip
         refine gs_ Try.func97 #[.agg #[.int .i64 t491, .int .i64 t492, .int .i64 t493, .int .i64 t494]] ?_
         with_reducible refine (impl_inverted.calls k1 t491 t492 t493 t494 t495 t496 t497 t498 _ A34.out).mono ?_
         rintro e w61 ⟨rfl, hb⟩
         refine ⟨_, rfl, ?_⟩
         replace HO490 := rb_ HO490 hb
         replace BK479 := bb_ BK479 hb
         replace BK480 := bb_ BK480 hb
         replace HB := bt_ HB hb
         try clear hb
         refine hK.out _ _ ⟨cz_ BK479 0, cz_ BK479 1⟩ (fun hHeld => ?_)
         clear hK K
         refine nm_ (some 58) ?_
         refine tw_ HT_ 5 9 (some 60) (some 15) (bv_ 12 63) (bv_ 12 543) (fun K hK => ?_) (fun K hK => ?_)
         ·skip
          refine gs_ Try.func143 #[.agg #[.int .i64 t495, .int .i64 t496, .int .i64 t497, .int .i64 t498], .agg #[.int .i64 x480000_1, .int .i64 x480001_1]] ?_
          with_reducible refine (impl_moveEnd.calls k1 t495 t496 t497 t498 x480000_1 x480001_1 t499 t500 false _ A35.out).mono ?_
          rintro e w62 ⟨rfl, hb⟩
          refine ⟨_, rfl, ?_⟩
          replace HO490 := rb_ HO490 hb
          replace BK479 := bb_ BK479 hb
          replace BK480 := bb_ BK480 hb
          replace HB := bt_ HB hb
          try clear hb
          refine hK.out _ _ ⟨cz_ BK479 0, cz_ BK479 1⟩ (fun hHeld => ?_)
          clear hK K
          refine nm_ (some 60) ?_
          refine px_ HT_ 6 54 127 ?_
          refine px_ HT_ 7 61 255 ?_
          refine px_ HT_ 8 62 511 ?_
          refine on_ HT_ 9 (some 15) (bv_ 12 1023) (fun K hK => ?_)
          refine bz_ 15 #[.int .i64 0, .int .i64 0] 74 ?_
          intro gb502 hg w63 BK502 hb
          have GW502 := bs_ HB hg
          have NB479_502 := bm_ BK479 hg
          have NB502_479 := bn_ BK479 hg
          have NB480_502 := bm_ BK480 hg
          have NB502_480 := bn_ BK480 hg
          replace HO490 := rb_ HO490 hb
          replace BK479 := bb_ BK479 hb
          replace BK480 := bb_ BK480 hb
          replace HB := bt_ HB hb
          clear hb hg
          refine hK.out _ _ ⟨cz_ BK479 0, cz_ BK479 1⟩ (fun hHeld => ?_)
          clear hK K
          refine nm_ (some 15) ?_
          exact norm_ (by simp only [putAll, Act.put, lstS, lstZ, lstC]) (hCont (gb502) _ ⟨hHeld, (ra_ HO490.out), (bl_ BK479).out, (bl_ BK480).out, (bl_ BK502).out, GW502.out, GW502.out, NB479_502.out, NB502_479.out, NB480_502.out, NB502_480.out, (bw_ HB).out⟩)
         skip
         refine bz_ 15 #[.int .i64 0, .int .i64 0] 74 ?_
         intro gb502 hg w62 BK502 hb
         have GW502 := bs_ HB hg
         have NB479_502 := bm_ BK479 hg
         have NB502_479 := bn_ BK479 hg
         have NB480_502 := bm_ BK480 hg
         have NB502_480 := bn_ BK480 hg
         replace HO490 := rb_ HO490 hb
         replace BK479 := bb_ BK479 hb
         replace BK480 := bb_ BK480 hb
         replace HB := bt_ HB hb
         clear hb hg
         refine hK.out _ _ ⟨cz_ BK479 0, cz_ BK479 1⟩ (fun hHeld => ?_)
         clear hK K
         refine nm_ (some 15) ?_
         refine on_ HT_ 5 (some 60) (bv_ 12 575) (fun K hK => ?_)
         refine gs_ Try.func143 #[.agg #[.int .i64 t495, .int .i64 t496, .int .i64 t497, .int .i64 t498], .agg #[.int .i64 x480000_1, .int .i64 x480001_1]] ?_
         with_reducible refine (impl_moveEnd.calls k1 t495 t496 t497 t498 x480000_1 x480001_1 t499 t500 false _ A35.out).mono ?_
         rintro e w63 ⟨rfl, hb⟩
         refine ⟨_, rfl, ?_⟩
         replace HO490 := rb_ HO490 hb
         replace BK479 := bb_ BK479 hb
         replace BK480 := bb_ BK480 hb
         replace BK502 := bb_ BK502 hb
         replace HB := bt_ HB hb
         try clear hb
         refine hK.out _ _ ⟨cz_ BK479 0, cz_ BK479 1⟩ (fun hHeld => ?_)
         clear hK K
         refine nm_ (some 60) ?_
         refine px_ HT_ 6 54 639 ?_
         refine px_ HT_ 7 61 767 ?_
         refine px_ HT_ 8 62 1023 ?_
         exact norm_ (by simp only [putAll, Act.put, lstS, lstZ, lstC]) (hCont (gb502) _ ⟨hHeld, (ra_ HO490.out), (bl_ BK479).out, (bl_ BK480).out, (bl_ BK502).out, GW502.out, GW502.out, NB479_502.out, NB502_479.out, NB480_502.out, NB502_480.out, (bw_ HB).out⟩)
        skip
        refine bz_ 15 #[.int .i64 0, .int .i64 0] 74 ?_
        intro gb502 hg w61 BK502 hb
        have GW502 := bs_ HB hg
        have NB479_502 := bm_ BK479 hg
        have NB502_479 := bn_ BK479 hg
        have NB480_502 := bm_ BK480 hg
        have NB502_480 := bn_ BK480 hg
        replace HO490 := rb_ HO490 hb
        replace BK479 := bb_ BK479 hb
        replace BK480 := bb_ BK480 hb
        replace HB := bt_ HB hb
        clear hb hg
        refine hK.out _ _ ⟨cz_ BK479 0, cz_ BK479 1⟩ (fun hHeld => ?_)
        clear hK K
        refine nm_ (some 15) ?_
        refine on_ HT_ 3 (some 58) (bv_ 12 543) (fun K hK => ?_)
        refine gs_ Try.func97 #[.agg #[.int .i64 t491, .int .i64 t492, .int .i64 t493, .int .i64 t494]] ?_
        with_reducible refine (impl_inverted.calls k1 t491 t492 t493 t494 t495 t496 t497 t498 _ A34.out).mono ?_
        rintro e w62 ⟨rfl, hb⟩
        refine ⟨_, rfl, ?_⟩
        replace HO490 := rb_ HO490 hb
        replace BK479 := bb_ BK479 hb
        replace BK480 := bb_ BK480 hb
        replace BK502 := bb_ BK502 hb
        replace HB := bt_ HB hb
        try clear hb
        refine hK.out _ _ ⟨cz_ BK479 0, cz_ BK479 1⟩ (fun hHeld => ?_)
        clear hK K
        refine nm_ (some 58) ?_
        refine on_ HT_ 5 (some 60) (bv_ 12 575) (fun K hK => ?_)
        refine gs_ Try.func143 #[.agg #[.int .i64 t495, .int .i64 t496, .int .i64 t497, .int .i64 t498], .agg #[.int .i64 x480000_1, .int .i64 x480001_1]] ?_
        with_reducible refine (impl_moveEnd.calls k1 t495 t496 t497 t498 x480000_1 x480001_1 t499 t500 false _ A35.out).mono ?_
        rintro e w63 ⟨rfl, hb⟩
        refine ⟨_, rfl, ?_⟩
        replace HO490 := rb_ HO490 hb
        replace BK479 := bb_ BK479 hb
        replace BK480 := bb_ BK480 hb
        replace BK502 := bb_ BK502 hb
        replace HB := bt_ HB hb
        try clear hb
        refine hK.out _ _ ⟨cz_ BK479 0, cz_ BK479 1⟩ (fun hHeld => ?_)
        clear hK K
        refine nm_ (some 60) ?_
        refine px_ HT_ 6 54 639 ?_
        refine px_ HT_ 7 61 767 ?_
        refine px_ HT_ 8 62 1023 ?_
        exact norm_ (by simp only [putAll, Act.put, lstS, lstZ, lstC]) (hCont (gb502) _ ⟨hHeld, (ra_ HO490.out), (bl_ BK479).out, (bl_ BK480).out, (bl_ BK502).out, GW502.out, GW502.out, NB479_502.out, NB502_479.out, NB480_502.out, NB502_480.out, (bw_ HB).out⟩)
       skip
       refine bz_ 15 #[.int .i64 0, .int .i64 0] 74 ?_
       intro gb502 hg w60 BK502 hb
       have GW502 := bs_ HB hg
       have NB479_502 := bm_ BK479 hg
       have NB502_479 := bn_ BK479 hg
       have NB480_502 := bm_ BK480 hg
       have NB502_480 := bn_ BK480 hg
       replace HO490 := rb_ HO490 hb
       replace BK479 := bb_ BK479 hb
       replace BK480 := bb_ BK480 hb
       replace HB := bt_ HB hb
       clear hb hg
       refine hK.out _ _ ⟨cz_ BK479 0, cz_ BK479 1⟩ (fun hHeld => ?_)
       clear hK K
       refine nm_ (some 15) ?_
       refine on_ HT_ 2 (some 57) (bv_ 12 535) (fun K hK => ?_)
       refine gs_ Try.func144 #[.slice A1 l1.length c1, .int .i64 t487] ?_
       with_reducible refine (impl_letterMatrix.calls k1 _ _ l1 t487 t491 t492 t493 t494 _ ?side1 ?side2 A33.out).mono ?_
       (case side1 => exact ca_ (Kd.C_below HR1.out HB.out))
       (case side2 => exact HC1.out)
       rintro e w61 ⟨rfl, hb⟩
       refine ⟨_, rfl, ?_⟩
       replace HO490 := rb_ HO490 hb
       replace BK479 := bb_ BK479 hb
       replace BK480 := bb_ BK480 hb
       replace BK502 := bb_ BK502 hb
       replace HB := bt_ HB hb
       try clear hb
       refine hK.out _ _ ⟨cz_ BK479 0, cz_ BK479 1⟩ (fun hHeld => ?_)
       clear hK K
       refine nm_ (some 57) ?_
       refine on_ HT_ 3 (some 58) (bv_ 12 543) (fun K hK => ?_)
       refine gs_ Try.func97 #[.agg #[.int .i64 t491, .int .i64 t492, .int .i64 t493, .int .i64 t494]] ?_
       with_reducible refine (impl_inverted.calls k1 t491 t492 t493 t494 t495 t496 t497 t498 _ A34.out).mono ?_
       rintro e w62 ⟨rfl, hb⟩
       refine ⟨_, rfl, ?_⟩
       replace HO490 := rb_ HO490 hb
       replace BK479 := bb_ BK479 hb
       replace BK480 := bb_ BK480 hb
       replace BK502 := bb_ BK502 hb
       replace HB := bt_ HB hb
       try clear hb
       refine hK.out _ _ ⟨cz_ BK479 0, cz_ BK479 1⟩ (fun hHeld => ?_)
       clear hK K
       refine nm_ (some 58) ?_
       refine on_ HT_ 5 (some 60) (bv_ 12 575) (fun K hK => ?_)
       refine gs_ Try.func143 #[.agg #[.int .i64 t495, .int .i64 t496, .int .i64 t497, .int .i64 t498], .agg #[.int .i64 x480000_1, .int .i64 x480001_1]] ?_
       with_reducible refine (impl_moveEnd.calls k1 t495 t496 t497 t498 x480000_1 x480001_1 t499 t500 false _ A35.out).mono ?_
       rintro e w63 ⟨rfl, hb⟩
       refine ⟨_, rfl, ?_⟩
       replace HO490 := rb_ HO490 hb
       replace BK479 := bb_ BK479 hb
       replace BK480 := bb_ BK480 hb
       replace BK502 := bb_ BK502 hb
       replace HB := bt_ HB hb
       try clear hb
       refine hK.out _ _ ⟨cz_ BK479 0, cz_ BK479 1⟩ (fun hHeld => ?_)
       clear hK K
       refine nm_ (some 60) ?_
       refine px_ HT_ 6 54 639 ?_
       refine px_ HT_ 7 61 767 ?_
       refine px_ HT_ 8 62 1023 ?_
       exact norm_ (by simp only [putAll, Act.put, lstS, lstZ, lstC]) (hCont (gb502) _ ⟨hHeld, (ra_ HO490.out), (bl_ BK479).out, (bl_ BK480).out, (bl_ BK502).out, GW502.out, GW502.out, NB479_502.out, NB502_479.out, NB480_502.out, NB502_480.out, (bw_ HB).out⟩)
      rintro gb502 w64 ⟨hS_, h0_, h1_, h2_, h3_, h4_, h5_, h6_, h7_, h8_, h9_, h10_⟩
      clear HO490 BK479 BK480 HB
      have HO490 := Aside0.mk h0_
      have BK479 := Aside0.mk h1_
      have BK480 := Aside0.mk h2_
      have BK502 := Aside0.mk h3_
      have GW502 := Aside0.mk h4_
      have GW502 := Aside0.mk h5_
      have NB479_502 := Aside0.mk h6_
      have NB502_479 := Aside0.mk h7_
      have NB480_502 := Aside0.mk h8_
      have NB502_480 := Aside0.mk h9_
      have HB := Aside0.mk h10_
      clear h0_ h1_ h2_ h3_ h4_ h5_ h6_ h7_ h8_ h9_ h10_
      have hHeld : w64.cell? ⟨gb479, 0, none⟩ = some (.int .i64 x480000_1) ∧ w64.cell? ⟨gb479, 1, none⟩ = some (.int .i64 x480001_1) := hS_
      refine norm_ (a' := ?_) ?_ ?_
      rotate_left
      ·simp only [putAll, Act.put, lstS, lstZ, lstC]
       rfl
      refine on_ HT_ 10 none (bv_ 12 2047) (fun K hK => ?_)
      have hs65 : w64.cell? ⟨gb502, 0, none⟩ = some (.int .i64 0) := (blk_cell BK502.out 0).trans rfl
      have hfs65 := blk_frozen BK502.out 0
      have hns65_0 := NB479_502.out
      have hns65_1 := NB480_502.out
      have hms65_0 := NB502_479.out
      have hms65_1 := NB502_480.out
      have hs66 : w64.cell? ⟨gb502, 1, none⟩ = some (.int .i64 0) := (blk_cell BK502.out 1).trans rfl
      have hfs66 := blk_frozen BK502.out 1
      have hns66_0 := NB479_502.out
      have hns66_1 := NB480_502.out
      have hms66_0 := NB502_479.out
      have hms66_1 := NB502_480.out
      refine skip_ (w1 := ?_) (by rfl) rfl ?_ ?_
      rotate_left
      ·go_simp
       rfl
      refine hK.out _ _ ⟨(cg_ NB479_502 ((cg_ NB479_502 (hHeld.1)))), (cg_ NB479_502 ((cg_ NB479_502 (hHeld.2))))⟩ (fun hHeld => ?_)
      clear hK K
      refine px_ HT_ 11 16 4095 ?_
      refine done_ (done_of HT_.out (by kernel_rfl)) ?_
      have hnb67 := NB480_502.out
      have hnc67 := NB502_480.out
      obtain ⟨hcz68_0, hcz68_1, hfz68_0, hfz68_1⟩ := ch2_ BK480
      try go_wp2
      refine bodyPost_ret (results_list (rs := [.tmp 8, .cell 9 74, .tmp 10]) rfl (by simp) (.tmp (.cell gb480 74 #[.int .i64 0, .int .i64 0] (0, 0) _ rfl (bp_ BK480).out Try.underlying74 rfl (by kernel_rfl) (.tmp .nil)))) rfl ?_
      exact ⟨_, es_, by first | exact Kd.R_nil _ _ _ _ _ | exact Kd.N_nil _ _ _ _ _ | exact Kd.V_nil _ _ _ _ _ | exact Kd.Q_nil _ _ _ _ _ | exact Kd.S_nil _ _ _ _ _, (bw_ HB).out⟩
     rw [if_neg c32] at H
     exact absurd H (by simp)
   simp only [Option.some.injEq, Prod.mk.injEq] at H
   obtain ⟨rfl, rfl, rfl, rfl⟩ := H
   go_enter Try.func64, Try.ntmps64
   go_wp2_with (first | ((refine gd_ 7 ?_); refine by_ 7 #[.int .i64 a3_0, .int .i64 a3_1] 74 HB ?_; intro gb479 hg w69 BK479 hb GW479 HB_; replace HB := HB_; clear hb hg) | ((refine gd_ 9 ?_); refine by_ 9 #[.int .i64 0, .int .i64 0] 74 HB ?_; intro gb480 hg w70 BK480 hb GW480 HB_; have NB479_480 := bm_ BK479 hg; have NB480_479 := bn_ BK479 hg; replace BK479 := bb_ BK479 hb; replace HB := HB_; clear hb hg; have hnb71 := NB479_480.out; have hnc71 := NB480_479.out; obtain ⟨hcz72_0, hcz72_1, hfz72_0, hfz72_1⟩ := ch2_ BK479) | ((refine gc_ 140 ?_); refine ge_ 18 Try.func140 #[.agg #[.int .i64 a3_0, .int .i64 a3_1]] ?_; (with_reducible refine (impl_IsEnd.calls k a3_0 a3_1 true _ A5.out).mono ?_); rintro e w73 ⟨rfl, hb⟩; refine ⟨_, rfl, ?_⟩; replace BK479 := bb_ BK479 hb; replace BK480 := bb_ BK480 hb; replace HB := bt_ HB hb; (try clear hb)) | ((refine gc_ 141 ?_); refine ge_ 25 Try.func141 #[.int .i64 a0, .slice A1 l1.length c1, .slice A2 l2.length c2] ?_; (with_reducible refine (impl_freeCode.calls k a0 _ _ l1 _ _ l2 false t483 _ ?side1 ?side2 ?side3 ?side4 A7.out).mono ?_); (case side1 => exact ca_ (Kd.C_below HR1.out HB.out)); (case side2 => exact HC1.out); (case side3 => exact ca_ (Kd.C_below HR2.out HB.out)); (case side4 => exact HC2.out); rintro e w74 ⟨rfl, hb⟩; refine ⟨_, rfl, ?_⟩; replace BK479 := bb_ BK479 hb; replace BK480 := bb_ BK480 hb; replace HB := bt_ HB hb; (try clear hb); obtain ⟨hcz75_0, hcz75_1, hfz75_0, hfz75_1⟩ := ch2_ BK480))
   refine bodyPost_ret (results_list (rs := [.tmp 8, .cell 9 74, .tmp 10]) rfl (by simp) (.tmp (.cell gb480 74 #[.int .i64 0, .int .i64 0] (0, 0) _ rfl (bp_ BK480).out Try.underlying74 rfl (by kernel_rfl) (.tmp .nil)))) rfl ?_
   exact ⟨_, es_, by first | exact Kd.R_nil _ _ _ _ _ | exact Kd.N_nil _ _ _ _ _ | exact Kd.V_nil _ _ _ _ _ | exact Kd.Q_nil _ _ _ _ _ | exact Kd.S_nil _ _ _ _ _, (bw_ HB).out⟩
  simp only [Option.some.injEq, Prod.mk.injEq] at H
  obtain ⟨rfl, rfl, rfl, rfl⟩ := H
  go_enter Try.func64, Try.ntmps64
  go_wp2_with (first | ((refine gd_ 7 ?_); refine by_ 7 #[.int .i64 a3_0, .int .i64 a3_1] 74 HB ?_; intro gb479 hg w76 BK479 hb GW479 HB_; replace HB := HB_; clear hb hg) | ((refine gd_ 9 ?_); refine by_ 9 #[.int .i64 0, .int .i64 0] 74 HB ?_; intro gb480 hg w77 BK480 hb GW480 HB_; have NB479_480 := bm_ BK479 hg; have NB480_479 := bn_ BK479 hg; replace BK479 := bb_ BK479 hb; replace HB := HB_; clear hb hg; have hnb78 := NB479_480.out; have hnc78 := NB480_479.out; obtain ⟨hcz79_0, hcz79_1, hfz79_0, hfz79_1⟩ := ch2_ BK479) | ((refine gc_ 140 ?_); refine ge_ 18 Try.func140 #[.agg #[.int .i64 a3_0, .int .i64 a3_1]] ?_; (with_reducible refine (impl_IsEnd.calls k a3_0 a3_1 true _ A5.out).mono ?_); rintro e w80 ⟨rfl, hb⟩; refine ⟨_, rfl, ?_⟩; replace BK479 := bb_ BK479 hb; replace BK480 := bb_ BK480 hb; replace HB := bt_ HB hb; (try clear hb)) | ((refine gc_ 141 ?_); refine ge_ 25 Try.func141 #[.int .i64 a0, .slice A1 l1.length c1, .slice A2 l2.length c2] ?_; (with_reducible refine (impl_freeCode.calls k a0 _ _ l1 _ _ l2 t482 t483 _ ?side1 ?side2 ?side3 ?side4 A7.out).mono ?_); (case side1 => exact ca_ (Kd.C_below HR1.out HB.out)); (case side2 => exact HC1.out); (case side3 => exact ca_ (Kd.C_below HR2.out HB.out)); (case side4 => exact HC2.out); rintro e w81 ⟨rfl, hb⟩; refine ⟨_, rfl, ?_⟩; replace BK479 := bb_ BK479 hb; replace BK480 := bb_ BK480 hb; replace HB := bt_ HB hb; (try clear hb); obtain ⟨hcz82_0, hcz82_1, hfz82_0, hfz82_1⟩ := ch2_ BK480))
  refine bodyPost_ret (results_list (rs := [.tmp 8, .cell 9 74, .tmp 10]) rfl (by simp) (.tmp (.cell gb480 74 #[.int .i64 0, .int .i64 0] (0, 0) _ rfl (bp_ BK480).out Try.underlying74 rfl (by kernel_rfl) (.tmp .nil)))) rfl ?_
  exact ⟨_, es_, by first | exact Kd.R_nil _ _ _ _ _ | exact Kd.N_nil _ _ _ _ _ | exact Kd.V_nil _ _ _ _ _ | exact Kd.Q_nil _ _ _ _ _ | exact Kd.S_nil _ _ _ _ _, (bw_ HB).out⟩
 simp only [Option.some.injEq, Prod.mk.injEq] at H
 obtain ⟨rfl, rfl, rfl, rfl⟩ := H
 go_enter Try.func64, Try.ntmps64
 go_wp2_with (first | ((refine gd_ 7 ?_); refine by_ 7 #[.int .i64 a3_0, .int .i64 a3_1] 74 HB ?_; intro gb479 hg w83 BK479 hb GW479 HB_; replace HB := HB_; clear hb hg) | ((refine gd_ 9 ?_); refine by_ 9 #[.int .i64 0, .int .i64 0] 74 HB ?_; intro gb480 hg w84 BK480 hb GW480 HB_; have NB479_480 := bm_ BK479 hg; have NB480_479 := bn_ BK479 hg; replace BK479 := bb_ BK479 hb; replace HB := HB_; clear hb hg; have hnb85 := NB479_480.out; have hnc85 := NB480_479.out; obtain ⟨hcz86_0, hcz86_1, hfz86_0, hfz86_1⟩ := ch2_ BK479) | ((refine gc_ 140 ?_); refine ge_ 18 Try.func140 #[.agg #[.int .i64 a3_0, .int .i64 a3_1]] ?_; (with_reducible refine (impl_IsEnd.calls k a3_0 a3_1 false _ A5.out).mono ?_); rintro e w87 ⟨rfl, hb⟩; refine ⟨_, rfl, ?_⟩; replace BK479 := bb_ BK479 hb; replace BK480 := bb_ BK480 hb; replace HB := bt_ HB hb; (try clear hb); obtain ⟨hcz88_0, hcz88_1, hfz88_0, hfz88_1⟩ := ch2_ BK480))
 refine bodyPost_ret (results_list (rs := [.tmp 8, .cell 9 74, .tmp 10]) rfl (by simp) (.tmp (.cell gb480 74 #[.int .i64 0, .int .i64 0] (0, 0) _ rfl (bp_ BK480).out Try.underlying74 rfl (by kernel_rfl) (.tmp .nil)))) rfl ?_
 exact ⟨_, es_, by first | exact Kd.R_nil _ _ _ _ _ | exact Kd.N_nil _ _ _ _ _ | exact Kd.V_nil _ _ _ _ _ | exact Kd.Q_nil _ _ _ _ _ | exact Kd.S_nil _ _ _ _ _, (bw_ HB).out⟩
end Go.Proofs.Ytgoeelhiffbjlaa.QB
