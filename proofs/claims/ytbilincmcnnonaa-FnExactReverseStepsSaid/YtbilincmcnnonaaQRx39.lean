import Derived.Test.YtbilincmcnnonaaQRx8
import Derived.Test.YtbilincmcnnonaaQRx32
namespace Go.Proofs.Ytbilincmcnnonaa.QR
set_option maxHeartbeats 8000000
set_option maxRecDepth 100000
open Go.RowKit Go.Proofs.YtbilincmcnnonaaW.PrintWords Go.Proofs.YtbilincmcnnonaaW.PrintLast Go.Proofs.YtbilincmcnnonaaW.PrintMore
attribute [local go_sem] isSome_setCell max2_int min2_int max_two min_two max_three min_three max_four min_four
set_option linter.unusedVariables false
set_option linter.unusedSimpArgs false

/-! ### impl_follow: function 132 -/
def impl_follow.l0 : Nat → Int → ByteArray → List (S39) → Int → Int → Int → Int → Int → Option ((List (S39)) × Bool)
 | 0, _, _, _, _, _, _, _, _ => none
 | k + 1, x0, x2, x8, x16, x17, x229000, x229001, x229002 => if x17 < x16 then (if 0 ≤ x17 then (if x17 < (x2.size : Int) then (if (bt x2 x17) = 117 then ((impl_neighbour.f k x0 x229000 x229001 x229002 0).bind fun bt232 => (if bt232.2.2.2 = true then (if x8.length < 5864062014805 then (impl_follow.l0 k x0 x2 (x8 ++ [(⟨bt232.1, bt232.2.1, bt232.2.2.1⟩ : S39)]) x16 (wrap64 (x17 + 1)) bt232.1 bt232.2.1 bt232.2.2.1) else (none)) else (some (([] : List (S39)), false)))) else ((impl_neighbour.f k x0 x229000 x229001 x229002 ((((bt x2 x17) - 48) % 256) + 1)).bind fun bt240 => (if bt240.2.2.2 = true then (if x8.length < 5864062014805 then (impl_follow.l0 k x0 x2 (x8 ++ [(⟨bt240.1, bt240.2.1, bt240.2.2.1⟩ : S39)]) x16 (wrap64 (x17 + 1)) bt240.1 bt240.2.1 bt240.2.2.1) else (none)) else (some (([] : List (S39)), false))))) else (none)) else (none)) else (some (x8, true))
def impl_follow.f (k : Nat) (a0 : Int) (a1_0 : Int) (a1_1 : Int) (a1_2 : Int) (a2 : ByteArray) : Option ((List (S39)) × Bool) := impl_follow.l0 k a0 a2 (([(⟨a1_0, a1_1, a1_2⟩ : S39)] : List (S39))) (a2.size : Int) 0 a1_0 a1_1 a1_2
theorem impl_follow.calls (k : Nat) (a0 : Int) (a1_0 : Int) (a1_1 : Int) (a1_2 : Int) (a2 : ByteArray) (r1 : List (S39)) (r2 : Bool) (w : World) (h : impl_follow.f k a0 a1_0 a1_1 a1_2 a2 = some (r1, r2)) :
  Calls Try.prog 132 #[.int .i64 a0, .agg #[.int .i64 a1_0, .int .i64 a1_1, .int .i64 a1_2], .string a2] w fun e w' => ∃ v0_ : Value, e = .returned (.tuple #[v0_, .bool r2]) ∧ Kd.R k39 39 w' w.heap.size (fun _ => True) v0_ r1 ∧ Below w.heap.size w w' := by
 have hu39 := Try.underlying39
 have HB := Aside0.mk (Below.refl w.heap.size w)
 have H : (impl_follow.l0 k a0 a2 (([(⟨a1_0, a1_1, a1_2⟩ : S39)] : List (S39))) (a2.size : Int) 0 a1_0 a1_1 a1_2) = some (r1, r2) := h
 clear h
 obtain ⟨y229, hy229⟩ : ∃ y_ : List (S39), y_ = (([(⟨a1_0, a1_1, a1_2⟩ : S39)] : List (S39))) := ⟨_, rfl⟩
 replace H : (impl_follow.l0 k a0 a2 y229 (a2.size : Int) 0 a1_0 a1_1 a1_2) = some (r1, r2) := by first | (rw [hy229]; with_reducible exact H) | (have H2_ := (Option.bind_some _ _).symm.trans H; rw [hy229]; with_reducible exact H2_) | (have H2_ := (Option.bind_some _ _).symm.trans H; with_reducible exact H2_) | with_reducible exact H | (rw [hy229]; exact H) | exact H
 have Ny229 := Aside0.mk hy229
 clear hy229
 have H' := Aside0.mk H
 clear H
 go_enter Try.func132, Try.ntmps132
 go_wp2_with (first | ((refine gd_ 4 ?_); refine bx_ 4 #[.int .i64 a1_0, .int .i64 a1_1, .int .i64 a1_2] 39 ?_; intro gb228 hg w4 BK228 hb; have GW228 := bs_ HB hg; have GE228 := bs_ HB hg; replace HB := bt_ HB hb; clear hb hg; obtain ⟨hcz5_0, hcz5_1, hcz5_2, hfz5_0, hfz5_1, hfz5_2⟩ := ch3_ BK228) | ((refine gd_ 14 ?_); refine Kd.R_lit k39 _ 39 ?hg (N := 14) ?hd (xs := ([(⟨a1_0, a1_1, a1_2⟩ : S39)] : List (S39))) (inner := [.int .i64 a1_0, .int .i64 a1_1, .int .i64 a1_2]) (ok := fun _ => True) (okp := fun _ => True) ?hr ?hp (fun _ hk => hk) trivial (Below.refl _ _) (Nat.le_refl _) (by simp) ?_; (case hd => rfl); (case hg => rfl); (case hr => first | (go_simp; done) | (go_simp; rfl)); (case hp => exact (Reps.c3 (show Kd.M k39 _ _ _ (⟨a1_0, a1_1, a1_2⟩ : S39) [.int .i64 a1_0, .int .i64 a1_1, .int .i64 a1_2] from (k39_mkM _ _ _ (⟨a1_0, a1_1, a1_2⟩ : S39) )) (Reps.none _ _))); intro v230 w6 ho7 hb hg_ hnew_; clear hg_ hnew_; (first | rw [← Ny229.out] at ho7 | (simp only [Int.reduceToNat] at ho7; rw [← Ny229.out] at ho7)); have HO231 := Aside0.mk (Kd.R_lower (Kd.R_newB ho7 (g := gb228) (o := .cells #[.int .i64 a1_0, .int .i64 a1_1, .int .i64 a1_2] 39 (0, 0)) (bl_ BK228).out) (below_size (bw_ HB).out)); replace BK228 := bb_ BK228 hb; replace HB := bt_ HB hb; clear hb ho7))
 go_loopg [8, 17] k (fun kq v8 v17 w' => ∃ (x8_1 : List (S39)) (x17_1 : Int) (x229000_1 : Int) (x229001_1 : Int) (x229002_1 : Int), v17 = .int .i64 x17_1 ∧ Aside0 (impl_follow.l0 kq a0 a2 x8_1 (a2.size : Int) x17_1 x229000_1 x229001_1 x229002_1 = some (r1, r2)) ∧ Aside0 (kq ≤ k) ∧ Aside0 (Kd.R k39 39 w' w.heap.size (fun k_ => k_ ≠ gb228) v8 x8_1) ∧ Aside0 (w'.heap[gb228]? = some (.cells #[.int .i64 x229000_1, .int .i64 x229001_1, .int .i64 x229002_1] 39 (0, 0))) ∧ Aside0 (Below w.heap.size w w'))
 case atStart => exact ⟨(y229), (0), (a1_0), (a1_1), (a1_2), en_, H', ⟨Nat.le_refl _⟩, ⟨by (with_reducible repeat (first | apply Kd.R_alloc | apply Kd.R_drewN | apply Kd.R_drew)); exact Kd.R_mono HO231.out (fun _ hk => hk.2)⟩, bl_ BK228, bw_ HB⟩
 case round =>
  clear H'
  try clear c1
  try clear p2
  try clear c3
  try clear hcz5_0 hcz5_1 hcz5_2
  try clear hfz5_0 hfz5_1 hfz5_2
  obtain ⟨x8_1, x17_1, x229000_1, x229001_1, x229002_1, rfl, HA, HK1, HO_8, BK228, HB⟩ := hrel
  cases gk with
  | zero => exact absurd HA.out (by simp [impl_follow.l0])
  | succ k1 =>
   have H := HA.out
   clear HA
   simp only [impl_follow.l0] at H
   by_cases c8 : x17_1 < (a2.size : Int)
   ·rw [if_pos c8] at H
    have c8b0 : decide (x17_1 < (a2.size : Int)) = true := decide_eq_true c8
    clear c8
    by_cases c9 : 0 ≤ x17_1
    ·rw [if_pos c9] at H
     have c9b0 : decide (0 ≤ x17_1) = true := decide_eq_true c9
     clear c9
     by_cases c10 : x17_1 < (a2.size : Int)
     ·rw [if_pos c10] at H
      have c10b0 : decide (x17_1 < (a2.size : Int)) = true := decide_eq_true c10
      clear c10
      by_cases c12 : (bt a2 x17_1) = 117
      ·rw [if_pos c12] at H
       have c12b0 : ((bt a2 x17_1) == 117) = true := beq_iff_eq.mpr c12
       have c12b1 : ((bt a2 x17_1) != 117) = false := bne_eq_false_iff_eq.mpr c12
       clear c12
       replace H := ob_ H
       obtain ⟨⟨t232, t233, t234, t235⟩, A130, H⟩ := H
       have A13 := Aside0.mk A130
       clear A130
       by_cases c14 : t235 = true
       ·subst c14
        have H1 : (if x8_1.length < 5864062014805 then (impl_follow.l0 k1 a0 a2 (x8_1 ++ [(⟨t232, t233, t234⟩ : S39)]) (a2.size : Int) (wrap64 (x17_1 + 1)) t232 t233 t234) else (none)) = some (r1, r2) := by rw [if_pos rfl] at H; exact H
        clear H
        have H := H1
        clear H1
        by_cases c15 : x8_1.length < 5864062014805
        ·rw [if_pos c15] at H
         have LMc15 := Aside0.mk c15
         clear c15
         obtain ⟨y237, hy237⟩ : ∃ y_ : List (S39), y_ = (x8_1 ++ [(⟨t232, t233, t234⟩ : S39)]) := ⟨_, rfl⟩
         replace H : (impl_follow.l0 k1 a0 a2 y237 (a2.size : Int) (wrap64 (x17_1 + 1)) t232 t233 t234) = some (r1, r2) := by first | (rw [hy237]; with_reducible exact H) | (have H2_ := (Option.bind_some _ _).symm.trans H; rw [hy237]; with_reducible exact H2_) | (have H2_ := (Option.bind_some _ _).symm.trans H; with_reducible exact H2_) | with_reducible exact H | (rw [hy237]; exact H) | exact H
         have Ny237 := Aside0.mk hy237
         clear hy237
         have H' := Aside0.mk H
         clear H
         have p11 : 0 ≤ (x17_1 : Int) := od_
         have q11 : x17_1 < (a2.size : Int) := od_
         have hx11 := bt_at a2 x17_1
         replace p11 := eq_true p11
         replace q11 := eq_true q11
         obtain ⟨hcz16_0, hcz16_1, hcz16_2, hfz16_0, hfz16_1, hfz16_2⟩ := ch3_ BK228
         go_wp2_with (first | ((refine gc_ 153 ?_); refine ge_ 34 Try.func153 #[.int .i64 a0, .agg #[.int .i64 x229000_1, .int .i64 x229001_1, .int .i64 x229002_1], .int .i64 0] ?_; (with_reducible refine (impl_neighbour.calls k1 a0 x229000_1 x229001_1 x229002_1 0 t232 t233 t234 true _ A13.out).mono ?_); rintro e w17 ⟨rfl, hb⟩; refine ⟨_, rfl, ?_⟩; replace HO_8 := rb_ HO_8 hb; replace BK228 := bb_ BK228 hb; replace HB := bt_ HB hb; (try clear hb)) | ((refine gd_ 11 ?_); refine bx_ 11 #[.int .i64 0, .int .i64 0, .int .i64 0] 39 ?_; intro gb236 hg w18 BK236 hb; have GW236 := bs_ HB hg; have GE236 := bs_ HB hg; have NB228_236 := bm_ BK228 hg; have NB236_228 := bn_ BK228 hg; replace HO_8 := Aside0.mk (Kd.R_below (Kd.R_elderB (ra_ HO_8.out) gb236 (Nat.le_of_eq hg.symm)) hb); replace BK228 := bb_ BK228 hb; replace HB := bt_ HB hb; clear hb hg; have hnb19 := NB236_228.out; have hnc19 := NB228_236.out; obtain ⟨hcz20_0, hcz20_1, hcz20_2, hfz20_0, hfz20_1, hfz20_2⟩ := ch3_ BK236; obtain ⟨hcz21_0, hcz21_1, hcz21_2, hfz21_0, hfz21_1, hfz21_2⟩ := ch3_ BK228) | ((with_reducible refine gate_builtin (b := .append) (xs := #[.tmp 40, .tmp 42]) rfl ?_); at_builtin; refine Kd.R_append k39 (w0 := w) w.heap.size rfl (.tmp 40) (.tmp 42) 119 39 (.agg #[(.int .i64 0), (.int .i64 0), (.int .i64 0)]) 24 rfl Try.underlying119 info39 rfl (by decide) (by omega) u8 x8_1 (⟨t232, t233, t234⟩ : S39) [.int .i64 t232, .int .i64 t233, .int .i64 t234] (fun k_ => k_ ≠ gb228 ∧ k_ ≠ gb236) (fun _ => False) rfl (by first | (go_simp; done) | (go_simp; rfl)) ?aP (fun _ hk => hk.elim) ?aF ?aO ?aB ?aS ?aL ?_; (case aP => exact k39_mkM _ _ _ (⟨t232, t233, t234⟩ : S39)); (case aB => exact (bw_ HB).out); (case aF => exact (fun k_ hk => ⟨Kd.freshB (g := gb228) (o := .cells #[.int .i64 t232, .int .i64 t233, .int .i64 t234] 39 (0, 0)) (bp_ BK228).out k_ hk, Kd.freshB (g := gb236) (o := .cells #[.int .i64 t232, .int .i64 t233, .int .i64 t234] 39 (0, 0)) (bp_ BK236).out k_ hk⟩)); (case aO => exact (by (with_reducible repeat (first | apply Kd.R_alloc | apply Kd.R_drewN | apply Kd.R_drew)); exact Kd.R_mono (Kd.R_far (p := ⟨gb228, 2, none⟩) (Kd.R_far (p := ⟨gb228, 1, none⟩) (Kd.R_far (p := ⟨gb228, 0, none⟩) (Kd.R_far (p := ⟨gb236, 2, none⟩) (Kd.R_far (p := ⟨gb236, 1, none⟩) (Kd.R_far (p := ⟨gb236, 0, none⟩) (Kd.R_mono (Kd.R_mono HO_8.out (fun k_ hk => (⟨hk, hk.2⟩ : _ ∧ k_ ≠ gb236))) (fun k_ hk => (⟨hk, hk.1.1⟩ : _ ∧ k_ ≠ gb228))) (fun _ hk => hk.1.2) (.int .i64 t232)) (fun _ hk => hk.1.2) (.int .i64 t233)) (fun _ hk => hk.1.2) (.int .i64 t234)) (fun _ hk => hk.2) (.int .i64 t232)) (fun _ hk => hk.2) (.int .i64 t233)) (fun _ hk => hk.2) (.int .i64 t234)) (fun _ hk => ⟨hk.1.1.1, hk.1.1.2⟩))); (case aS => exact (below_size (bw_ HB).out)); (case aL => have := LMc15.out; omega); intro v238 w22 ho hb hg hat; rw [← Ny237.out] at ho; have n0_ := Aside0.mk (blk_grown (g := gb228) (o := .cells #[.int .i64 t232, .int .i64 t233, .int .i64 t234] 39 (0, 0)) (bp_ BK228).out hg (Kd.R_away HO_8.out (fun _ hk => hk.1))); have n1_ := Aside0.mk (blk_grown (g := gb236) (o := .cells #[.int .i64 t232, .int .i64 t233, .int .i64 t234] 39 (0, 0)) (bp_ BK236).out hg (Kd.R_away HO_8.out (fun _ hk => hk.2))); have n2_ := Aside0.mk (hb); have n3_ := Aside0.mk (ho); clear BK228; clear BK236; clear HB; clear HO_8; have BK228 := n0_; have BK236 := n1_; have HB := n2_; have HO239 := n3_; clear n0_ n1_ n2_ n3_; clear ho hb hg hat))
         go_roundg k1
         case measure => have := HK1.out; omega
         case rel => exact ⟨(y237), (wrap64 (x17_1 + 1)), (t232), (t233), (t234), en_, H', ⟨by have := HK1.out; omega⟩, ⟨by (with_reducible repeat (first | apply Kd.R_alloc | apply Kd.R_drewN | apply Kd.R_drew)); exact Kd.R_mono HO239.out (fun _ hk => hk.1)⟩, bl_ BK228, bw_ HB⟩
        ·rw [if_neg c15] at H
         exact absurd H (by simp)
       ·replace c14 := Bool.eq_false_iff.mpr c14
        subst c14
        have H1 : (some (([] : List (S39)), false)) = some (r1, r2) := by rw [if_neg (show ¬ (false = true) by decide)] at H; exact H
        clear H
        have H := H1
        clear H1
        simp only [Option.some.injEq, Prod.mk.injEq] at H
        obtain ⟨rfl, rfl⟩ := H
        have p11 : 0 ≤ (x17_1 : Int) := od_
        have q11 : x17_1 < (a2.size : Int) := od_
        have hx11 := bt_at a2 x17_1
        replace p11 := eq_true p11
        replace q11 := eq_true q11
        obtain ⟨hcz23_0, hcz23_1, hcz23_2, hfz23_0, hfz23_1, hfz23_2⟩ := ch3_ BK228
        go_wp2_with (first | ((refine gc_ 153 ?_); refine ge_ 34 Try.func153 #[.int .i64 a0, .agg #[.int .i64 x229000_1, .int .i64 x229001_1, .int .i64 x229002_1], .int .i64 0] ?_; (with_reducible refine (impl_neighbour.calls k1 a0 x229000_1 x229001_1 x229002_1 0 t232 t233 t234 false _ A13.out).mono ?_); rintro e w24 ⟨rfl, hb⟩; refine ⟨_, rfl, ?_⟩; replace HO_8 := rb_ HO_8 hb; replace BK228 := bb_ BK228 hb; replace HB := bt_ HB hb; (try clear hb)) | ((refine gd_ 11 ?_); refine bx_ 11 #[.int .i64 0, .int .i64 0, .int .i64 0] 39 ?_; intro gb236 hg w25 BK236 hb; have GW236 := bs_ HB hg; have GE236 := bs_ HB hg; have NB228_236 := bm_ BK228 hg; have NB236_228 := bn_ BK228 hg; replace HO_8 := Aside0.mk (Kd.R_below (Kd.R_elderB (ra_ HO_8.out) gb236 (Nat.le_of_eq hg.symm)) hb); replace BK228 := bb_ BK228 hb; replace HB := bt_ HB hb; clear hb hg; have hnb26 := NB236_228.out; have hnc26 := NB228_236.out; obtain ⟨hcz27_0, hcz27_1, hcz27_2, hfz27_0, hfz27_1, hfz27_2⟩ := ch3_ BK236))
        go_ret2
        exact ⟨_, es_, by first | exact Kd.R_nil _ _ _ _ _ | exact Kd.N_nil _ _ _ _ _ | exact Kd.V_nil _ _ _ _ _ | exact Kd.Q_nil _ _ _ _ _ | exact Kd.S_nil _ _ _ _ _, (bw_ HB).out⟩
      ·rw [if_neg c12] at H
       have c12b0 : ((bt a2 x17_1) == 117) = false := beq_eq_false_iff_ne.mpr c12
       have c12b1 : ((bt a2 x17_1) != 117) = true := bne_iff_ne.mpr c12
       replace H := ob_ H
       obtain ⟨⟨t240, t241, t242, t243⟩, A290, H⟩ := H
       have A29 := Aside0.mk A290
       clear A290
       by_cases c30 : t243 = true
       ·subst c30
        have H1 : (if x8_1.length < 5864062014805 then (impl_follow.l0 k1 a0 a2 (x8_1 ++ [(⟨t240, t241, t242⟩ : S39)]) (a2.size : Int) (wrap64 (x17_1 + 1)) t240 t241 t242) else (none)) = some (r1, r2) := by rw [if_pos rfl] at H; exact H
        clear H
        have H := H1
        clear H1
        by_cases c31 : x8_1.length < 5864062014805
        ·rw [if_pos c31] at H
         have LMc31 := Aside0.mk c31
         clear c31
         obtain ⟨y245, hy245⟩ : ∃ y_ : List (S39), y_ = (x8_1 ++ [(⟨t240, t241, t242⟩ : S39)]) := ⟨_, rfl⟩
         replace H : (impl_follow.l0 k1 a0 a2 y245 (a2.size : Int) (wrap64 (x17_1 + 1)) t240 t241 t242) = some (r1, r2) := by first | (rw [hy245]; with_reducible exact H) | (have H2_ := (Option.bind_some _ _).symm.trans H; rw [hy245]; with_reducible exact H2_) | (have H2_ := (Option.bind_some _ _).symm.trans H; with_reducible exact H2_) | with_reducible exact H | (rw [hy245]; exact H) | exact H
         have Ny245 := Aside0.mk hy245
         clear hy245
         have H' := Aside0.mk H
         clear H
         have p11 : 0 ≤ (x17_1 : Int) := od_
         have q11 : x17_1 < (a2.size : Int) := od_
         have hx11 := bt_at a2 x17_1
         replace p11 := eq_true p11
         replace q11 := eq_true q11
         have p28 : 0 ≤ (x17_1 : Int) := od_
         have q28 : x17_1 < (a2.size : Int) := od_
         have hx28 := bt_at a2 x17_1
         replace p28 := eq_true p28
         replace q28 := eq_true q28
         obtain ⟨hcz32_0, hcz32_1, hcz32_2, hfz32_0, hfz32_1, hfz32_2⟩ := ch3_ BK228
         go_wp2_with (first | ((refine gc_ 153 ?_); refine ge_ 34 Try.func153 #[.int .i64 a0, .agg #[.int .i64 x229000_1, .int .i64 x229001_1, .int .i64 x229002_1], .int .i64 ((((bt a2 x17_1) - 48) % 256) + 1)] ?_; (with_reducible refine (impl_neighbour.calls k1 a0 x229000_1 x229001_1 x229002_1 ((((bt a2 x17_1) - 48) % 256) + 1) t240 t241 t242 true _ A29.out).mono ?_); rintro e w33 ⟨rfl, hb⟩; refine ⟨_, rfl, ?_⟩; replace HO_8 := rb_ HO_8 hb; replace BK228 := bb_ BK228 hb; replace HB := bt_ HB hb; (try clear hb)) | ((refine gd_ 11 ?_); refine bx_ 11 #[.int .i64 0, .int .i64 0, .int .i64 0] 39 ?_; intro gb244 hg w34 BK244 hb; have GW244 := bs_ HB hg; have GE244 := bs_ HB hg; have NB228_244 := bm_ BK228 hg; have NB244_228 := bn_ BK228 hg; replace HO_8 := Aside0.mk (Kd.R_below (Kd.R_elderB (ra_ HO_8.out) gb244 (Nat.le_of_eq hg.symm)) hb); replace BK228 := bb_ BK228 hb; replace HB := bt_ HB hb; clear hb hg; have hnb35 := NB244_228.out; have hnc35 := NB228_244.out; obtain ⟨hcz36_0, hcz36_1, hcz36_2, hfz36_0, hfz36_1, hfz36_2⟩ := ch3_ BK244; obtain ⟨hcz37_0, hcz37_1, hcz37_2, hfz37_0, hfz37_1, hfz37_2⟩ := ch3_ BK228) | ((with_reducible refine gate_builtin (b := .append) (xs := #[.tmp 40, .tmp 42]) rfl ?_); at_builtin; refine Kd.R_append k39 (w0 := w) w.heap.size rfl (.tmp 40) (.tmp 42) 119 39 (.agg #[(.int .i64 0), (.int .i64 0), (.int .i64 0)]) 24 rfl Try.underlying119 info39 rfl (by decide) (by omega) u8 x8_1 (⟨t240, t241, t242⟩ : S39) [.int .i64 t240, .int .i64 t241, .int .i64 t242] (fun k_ => k_ ≠ gb228 ∧ k_ ≠ gb244) (fun _ => False) rfl (by first | (go_simp; done) | (go_simp; rfl)) ?aP (fun _ hk => hk.elim) ?aF ?aO ?aB ?aS ?aL ?_; (case aP => exact k39_mkM _ _ _ (⟨t240, t241, t242⟩ : S39)); (case aB => exact (bw_ HB).out); (case aF => exact (fun k_ hk => ⟨Kd.freshB (g := gb228) (o := .cells #[.int .i64 t240, .int .i64 t241, .int .i64 t242] 39 (0, 0)) (bp_ BK228).out k_ hk, Kd.freshB (g := gb244) (o := .cells #[.int .i64 t240, .int .i64 t241, .int .i64 t242] 39 (0, 0)) (bp_ BK244).out k_ hk⟩)); (case aO => exact (by (with_reducible repeat (first | apply Kd.R_alloc | apply Kd.R_drewN | apply Kd.R_drew)); exact Kd.R_mono (Kd.R_far (p := ⟨gb228, 2, none⟩) (Kd.R_far (p := ⟨gb228, 1, none⟩) (Kd.R_far (p := ⟨gb228, 0, none⟩) (Kd.R_far (p := ⟨gb244, 2, none⟩) (Kd.R_far (p := ⟨gb244, 1, none⟩) (Kd.R_far (p := ⟨gb244, 0, none⟩) (Kd.R_mono (Kd.R_mono HO_8.out (fun k_ hk => (⟨hk, hk.2⟩ : _ ∧ k_ ≠ gb244))) (fun k_ hk => (⟨hk, hk.1.1⟩ : _ ∧ k_ ≠ gb228))) (fun _ hk => hk.1.2) (.int .i64 t240)) (fun _ hk => hk.1.2) (.int .i64 t241)) (fun _ hk => hk.1.2) (.int .i64 t242)) (fun _ hk => hk.2) (.int .i64 t240)) (fun _ hk => hk.2) (.int .i64 t241)) (fun _ hk => hk.2) (.int .i64 t242)) (fun _ hk => ⟨hk.1.1.1, hk.1.1.2⟩))); (case aS => exact (below_size (bw_ HB).out)); (case aL => have := LMc31.out; omega); intro v246 w38 ho hb hg hat; rw [← Ny245.out] at ho; have n0_ := Aside0.mk (blk_grown (g := gb228) (o := .cells #[.int .i64 t240, .int .i64 t241, .int .i64 t242] 39 (0, 0)) (bp_ BK228).out hg (Kd.R_away HO_8.out (fun _ hk => hk.1))); have n1_ := Aside0.mk (blk_grown (g := gb244) (o := .cells #[.int .i64 t240, .int .i64 t241, .int .i64 t242] 39 (0, 0)) (bp_ BK244).out hg (Kd.R_away HO_8.out (fun _ hk => hk.2))); have n2_ := Aside0.mk (hb); have n3_ := Aside0.mk (ho); clear BK228; clear BK244; clear HB; clear HO_8; have BK228 := n0_; have BK244 := n1_; have HB := n2_; have HO247 := n3_; clear n0_ n1_ n2_ n3_; clear ho hb hg hat))
         go_roundg k1
         case measure => have := HK1.out; omega
         case rel => exact ⟨(y245), (wrap64 (x17_1 + 1)), (t240), (t241), (t242), en_, H', ⟨by have := HK1.out; omega⟩, ⟨by (with_reducible repeat (first | apply Kd.R_alloc | apply Kd.R_drewN | apply Kd.R_drew)); exact Kd.R_mono HO247.out (fun _ hk => hk.1)⟩, bl_ BK228, bw_ HB⟩
        ·rw [if_neg c31] at H
         exact absurd H (by simp)
       ·replace c30 := Bool.eq_false_iff.mpr c30
        subst c30
        have H1 : (some (([] : List (S39)), false)) = some (r1, r2) := by rw [if_neg (show ¬ (false = true) by decide)] at H; exact H
        clear H
        have H := H1
        clear H1
        simp only [Option.some.injEq, Prod.mk.injEq] at H
        obtain ⟨rfl, rfl⟩ := H
        have p11 : 0 ≤ (x17_1 : Int) := od_
        have q11 : x17_1 < (a2.size : Int) := od_
        have hx11 := bt_at a2 x17_1
        replace p11 := eq_true p11
        replace q11 := eq_true q11
        have p28 : 0 ≤ (x17_1 : Int) := od_
        have q28 : x17_1 < (a2.size : Int) := od_
        have hx28 := bt_at a2 x17_1
        replace p28 := eq_true p28
        replace q28 := eq_true q28
        obtain ⟨hcz39_0, hcz39_1, hcz39_2, hfz39_0, hfz39_1, hfz39_2⟩ := ch3_ BK228
        go_wp2_with (first | ((refine gc_ 153 ?_); refine ge_ 34 Try.func153 #[.int .i64 a0, .agg #[.int .i64 x229000_1, .int .i64 x229001_1, .int .i64 x229002_1], .int .i64 ((((bt a2 x17_1) - 48) % 256) + 1)] ?_; (with_reducible refine (impl_neighbour.calls k1 a0 x229000_1 x229001_1 x229002_1 ((((bt a2 x17_1) - 48) % 256) + 1) t240 t241 t242 false _ A29.out).mono ?_); rintro e w40 ⟨rfl, hb⟩; refine ⟨_, rfl, ?_⟩; replace HO_8 := rb_ HO_8 hb; replace BK228 := bb_ BK228 hb; replace HB := bt_ HB hb; (try clear hb)) | ((refine gd_ 11 ?_); refine bx_ 11 #[.int .i64 0, .int .i64 0, .int .i64 0] 39 ?_; intro gb244 hg w41 BK244 hb; have GW244 := bs_ HB hg; have GE244 := bs_ HB hg; have NB228_244 := bm_ BK228 hg; have NB244_228 := bn_ BK228 hg; replace HO_8 := Aside0.mk (Kd.R_below (Kd.R_elderB (ra_ HO_8.out) gb244 (Nat.le_of_eq hg.symm)) hb); replace BK228 := bb_ BK228 hb; replace HB := bt_ HB hb; clear hb hg; have hnb42 := NB244_228.out; have hnc42 := NB228_244.out; obtain ⟨hcz43_0, hcz43_1, hcz43_2, hfz43_0, hfz43_1, hfz43_2⟩ := ch3_ BK244))
        go_ret2
        exact ⟨_, es_, by first | exact Kd.R_nil _ _ _ _ _ | exact Kd.N_nil _ _ _ _ _ | exact Kd.V_nil _ _ _ _ _ | exact Kd.Q_nil _ _ _ _ _ | exact Kd.S_nil _ _ _ _ _, (bw_ HB).out⟩
     ·rw [if_neg c10] at H
      exact absurd H (by simp)
    ·rw [if_neg c9] at H
     exact absurd H (by simp)
   ·rw [if_neg c8] at H
    have c8b0 : decide (x17_1 < (a2.size : Int)) = false := decide_eq_false c8
    clear c8
    simp only [Option.some.injEq, Prod.mk.injEq] at H
    obtain ⟨rfl, rfl⟩ := H
    go_wp2
    go_ret2
    exact ⟨_, es_, by (with_reducible repeat (first | apply Kd.R_alloc | apply Kd.R_drewN | apply Kd.R_drew)); exact Kd.R_mono HO_8.out (fun _ hk => trivial), (bw_ HB).out⟩
attribute [local go_sem high] eqA39
/-! ### impl_toward: function 95 -/
def impl_toward.l0 : Nat → Int → Int → Int → Int → Int → Int → Int → Int → Option (Int)
 | 0, _, _, _, _, _, _, _, _ => none
 | k + 1, x0, x7, x253000, x253001, x253002, x254000, x254001, x254002 => if x7 ≤ x0 then ((impl_neighbour.f k x0 x253000 x253001 x253002 x7).bind fun bt254 => (if bt254.2.2.2 = true then (if (bt254.1 == x254000 && (bt254.2.1 == x254001 && (bt254.2.2.1 == x254002))) = true then (some x7) else (impl_toward.l0 k x0 (wrap64 (x7 + 1)) x253000 x253001 x253002 x254000 x254001 x254002)) else (impl_toward.l0 k x0 (wrap64 (x7 + 1)) x253000 x253001 x253002 x254000 x254001 x254002))) else (some 0)
def impl_toward.f (k : Nat) (a0 : Int) (a1_0 : Int) (a1_1 : Int) (a1_2 : Int) (a2_0 : Int) (a2_1 : Int) (a2_2 : Int) : Option (Int) := impl_toward.l0 k a0 1 a1_0 a1_1 a1_2 a2_0 a2_1 a2_2
theorem impl_toward.calls (k : Nat) (a0 : Int) (a1_0 : Int) (a1_1 : Int) (a1_2 : Int) (a2_0 : Int) (a2_1 : Int) (a2_2 : Int) (r : Int) (w : World) (h : impl_toward.f k a0 a1_0 a1_1 a1_2 a2_0 a2_1 a2_2 = some r) :
  Calls Try.prog 95 #[.int .i64 a0, .agg #[.int .i64 a1_0, .int .i64 a1_1, .int .i64 a1_2], .agg #[.int .i64 a2_0, .int .i64 a2_1, .int .i64 a2_2]] w fun e w' => e = .returned (.int .i64 r) ∧ Below w.heap.size w w' := by
 have hu39 := Try.underlying39
 have HB := Aside0.mk (Below.refl w.heap.size w)
 have H : (impl_toward.l0 k a0 1 a1_0 a1_1 a1_2 a2_0 a2_1 a2_2) = some r := h
 clear h
 have H' := Aside0.mk H
 clear H
 go_enter Try.func95, Try.ntmps95
 go_wp2_with (first | ((refine gd_ 4 ?_); refine bx_ 4 #[.int .i64 a1_0, .int .i64 a1_1, .int .i64 a1_2] 39 ?_; intro gb252 hg w4 BK252 hb; have GW252 := bs_ HB hg; have GE252 := bs_ HB hg; replace HB := bt_ HB hb; clear hb hg) | ((refine gd_ 5 ?_); refine bx_ 5 #[.int .i64 a2_0, .int .i64 a2_1, .int .i64 a2_2] 39 ?_; intro gb253 hg w5 BK253 hb; have GW253 := bs_ HB hg; have GE253 := bs_ HB hg; have NB252_253 := bm_ BK252 hg; have NB253_252 := bn_ BK252 hg; replace BK252 := bb_ BK252 hb; replace HB := bt_ HB hb; clear hb hg))
 go_loopg [7] k (fun kq v7 w' => ∃ (x7_1 : Int), v7 = .int .i64 x7_1 ∧ Aside0 (impl_toward.l0 kq a0 x7_1 a1_0 a1_1 a1_2 a2_0 a2_1 a2_2 = some r) ∧ Aside0 (kq ≤ k) ∧ Aside0 (w'.heap[gb252]? = some (.cells #[.int .i64 a1_0, .int .i64 a1_1, .int .i64 a1_2] 39 (0, 0))) ∧ Aside0 (w'.heap[gb253]? = some (.cells #[.int .i64 a2_0, .int .i64 a2_1, .int .i64 a2_2] 39 (0, 0))) ∧ Aside0 (Below w.heap.size w w'))
 case atStart => exact ⟨(1), en_, H', ⟨Nat.le_refl _⟩, bl_ BK252, bl_ BK253, bw_ HB⟩
 case round =>
  clear H'
  try clear p2
  obtain ⟨x7_1, rfl, HA, HK1, BK252, BK253, HB⟩ := hrel
  cases gk with
  | zero => exact absurd HA.out (by simp [impl_toward.l0])
  | succ k1 =>
   have H := HA.out
   clear HA
   simp only [impl_toward.l0] at H
   by_cases c6 : x7_1 ≤ a0
   ·rw [if_pos c6] at H
    have c6b0 : decide (x7_1 ≤ a0) = true := decide_eq_true c6
    clear c6
    replace H := ob_ H
    obtain ⟨⟨t254, t255, t256, t257⟩, A70, H⟩ := H
    have A7 := Aside0.mk A70
    clear A70
    by_cases c8 : t257 = true
    ·subst c8
     have H1 : (if (t254 == a2_0 && (t255 == a2_1 && (t256 == a2_2))) = true then (some x7_1) else (impl_toward.l0 k1 a0 (wrap64 (x7_1 + 1)) a1_0 a1_1 a1_2 a2_0 a2_1 a2_2)) = some r := by rw [if_pos rfl] at H; exact H
     clear H
     have H := H1
     clear H1
     by_cases c9 : (t254 == a2_0 && (t255 == a2_1 && (t256 == a2_2))) = true
     ·rw [if_pos c9] at H
      have c9b0 : (t254 == a2_0 && (t255 == a2_1 && (t256 == a2_2))) = true := c9
      (try (have c9b1 : decide (t254 = a2_0 && (t255 == a2_1 && (t256 == a2_2))) = true := by simpa using c9))
      (try (have c9b2 : (t254 == a2_0 && (t255 == a2_1 && (t256 == a2_2))) = true := by simpa using c9))
      clear c9
      obtain rfl := si_ H
      have hnb10 := NB252_253.out
      have hnc10 := NB253_252.out
      obtain ⟨hcz11_0, hcz11_1, hcz11_2, hfz11_0, hfz11_1, hfz11_2⟩ := ch3_ BK252
      go_wp2_with (first | ((refine gc_ 153 ?_); refine ge_ 19 Try.func153 #[.int .i64 a0, .agg #[.int .i64 a1_0, .int .i64 a1_1, .int .i64 a1_2], .int .i64 x7_1] ?_; (with_reducible refine (impl_neighbour.calls k1 a0 a1_0 a1_1 a1_2 x7_1 t254 t255 t256 true _ A7.out).mono ?_); rintro e w12 ⟨rfl, hb⟩; refine ⟨_, rfl, ?_⟩; replace BK252 := bb_ BK252 hb; replace BK253 := bb_ BK253 hb; replace HB := bt_ HB hb; (try clear hb)) | ((refine gd_ 8 ?_); refine bx_ 8 #[.int .i64 0, .int .i64 0, .int .i64 0] 39 ?_; intro gb258 hg w13 BK258 hb; have GW258 := bs_ HB hg; have GE258 := bs_ HB hg; have NB252_258 := bm_ BK252 hg; have NB258_252 := bn_ BK252 hg; have NB253_258 := bm_ BK253 hg; have NB258_253 := bn_ BK253 hg; replace BK252 := bb_ BK252 hb; replace BK253 := bb_ BK253 hb; replace HB := bt_ HB hb; clear hb hg; have hnb14 := NB258_252.out; have hnc14 := NB252_258.out; have hnb15 := NB258_253.out; have hnc15 := NB253_258.out; obtain ⟨hcz16_0, hcz16_1, hcz16_2, hfz16_0, hfz16_1, hfz16_2⟩ := ch3_ BK258; obtain ⟨hcz17_0, hcz17_1, hcz17_2, hfz17_0, hfz17_1, hfz17_2⟩ := ch3_ BK253))
      go_ret
      exact ⟨es_, (bw_ HB).out⟩
     ·rw [if_neg c9] at H
      have c9b0 : (t254 == a2_0 && (t255 == a2_1 && (t256 == a2_2))) = false := by simpa using c9
      (try (have c9b1 : decide (t254 = a2_0 && (t255 == a2_1 && (t256 == a2_2))) = false := by simpa using c9))
      (try (have c9b2 : (t254 == a2_0 && (t255 == a2_1 && (t256 == a2_2))) = false := by simpa using c9))
      (try (have c9b3 : ¬ (t254 = a2_0 && (t255 == a2_1 && (t256 == a2_2))) := by simpa using c9))
      clear c9
      have H' := Aside0.mk H
      clear H
      have hnb18 := NB252_253.out
      have hnc18 := NB253_252.out
      obtain ⟨hcz19_0, hcz19_1, hcz19_2, hfz19_0, hfz19_1, hfz19_2⟩ := ch3_ BK252
      go_wp2_with (first | ((refine gc_ 153 ?_); refine ge_ 19 Try.func153 #[.int .i64 a0, .agg #[.int .i64 a1_0, .int .i64 a1_1, .int .i64 a1_2], .int .i64 x7_1] ?_; (with_reducible refine (impl_neighbour.calls k1 a0 a1_0 a1_1 a1_2 x7_1 t254 t255 t256 true _ A7.out).mono ?_); rintro e w20 ⟨rfl, hb⟩; refine ⟨_, rfl, ?_⟩; replace BK252 := bb_ BK252 hb; replace BK253 := bb_ BK253 hb; replace HB := bt_ HB hb; (try clear hb)) | ((refine gd_ 8 ?_); refine bx_ 8 #[.int .i64 0, .int .i64 0, .int .i64 0] 39 ?_; intro gb258 hg w21 BK258 hb; have GW258 := bs_ HB hg; have GE258 := bs_ HB hg; have NB252_258 := bm_ BK252 hg; have NB258_252 := bn_ BK252 hg; have NB253_258 := bm_ BK253 hg; have NB258_253 := bn_ BK253 hg; replace BK252 := bb_ BK252 hb; replace BK253 := bb_ BK253 hb; replace HB := bt_ HB hb; clear hb hg; have hnb22 := NB258_252.out; have hnc22 := NB252_258.out; have hnb23 := NB258_253.out; have hnc23 := NB253_258.out; obtain ⟨hcz24_0, hcz24_1, hcz24_2, hfz24_0, hfz24_1, hfz24_2⟩ := ch3_ BK258; obtain ⟨hcz25_0, hcz25_1, hcz25_2, hfz25_0, hfz25_1, hfz25_2⟩ := ch3_ BK253))
      go_roundg k1
      case measure => have := HK1.out; omega
      case rel => exact ⟨(wrap64 (x7_1 + 1)), en_, H', ⟨by have := HK1.out; omega⟩, fl_ BK252 NB252_258, fl_ BK253 NB253_258, bw_ HB⟩
    ·replace c8 := Bool.eq_false_iff.mpr c8
     subst c8
     have H1 : (impl_toward.l0 k1 a0 (wrap64 (x7_1 + 1)) a1_0 a1_1 a1_2 a2_0 a2_1 a2_2) = some r := by rw [if_neg (show ¬ (false = true) by decide)] at H; exact H
     clear H
     have H := H1
     clear H1
     have H' := Aside0.mk H
     clear H
     have hnb26 := NB252_253.out
     have hnc26 := NB253_252.out
     obtain ⟨hcz27_0, hcz27_1, hcz27_2, hfz27_0, hfz27_1, hfz27_2⟩ := ch3_ BK252
     go_wp2_with (first | ((refine gc_ 153 ?_); refine ge_ 19 Try.func153 #[.int .i64 a0, .agg #[.int .i64 a1_0, .int .i64 a1_1, .int .i64 a1_2], .int .i64 x7_1] ?_; (with_reducible refine (impl_neighbour.calls k1 a0 a1_0 a1_1 a1_2 x7_1 t254 t255 t256 false _ A7.out).mono ?_); rintro e w28 ⟨rfl, hb⟩; refine ⟨_, rfl, ?_⟩; replace BK252 := bb_ BK252 hb; replace BK253 := bb_ BK253 hb; replace HB := bt_ HB hb; (try clear hb)) | ((refine gd_ 8 ?_); refine bx_ 8 #[.int .i64 0, .int .i64 0, .int .i64 0] 39 ?_; intro gb258 hg w29 BK258 hb; have GW258 := bs_ HB hg; have GE258 := bs_ HB hg; have NB252_258 := bm_ BK252 hg; have NB258_252 := bn_ BK252 hg; have NB253_258 := bm_ BK253 hg; have NB258_253 := bn_ BK253 hg; replace BK252 := bb_ BK252 hb; replace BK253 := bb_ BK253 hb; replace HB := bt_ HB hb; clear hb hg; have hnb30 := NB258_252.out; have hnc30 := NB252_258.out; have hnb31 := NB258_253.out; have hnc31 := NB253_258.out; obtain ⟨hcz32_0, hcz32_1, hcz32_2, hfz32_0, hfz32_1, hfz32_2⟩ := ch3_ BK258))
     go_roundg k1
     case measure => have := HK1.out; omega
     case rel => exact ⟨(wrap64 (x7_1 + 1)), en_, H', ⟨by have := HK1.out; omega⟩, fl_ BK252 NB252_258, fl_ BK253 NB253_258, bw_ HB⟩
   ·rw [if_neg c6] at H
    have c6b0 : decide (x7_1 ≤ a0) = false := decide_eq_false c6
    clear c6
    obtain rfl := si_ H
    go_wp2
    go_ret
    exact ⟨es_, (bw_ HB).out⟩
/-! ### impl_letterTo: function 135 -/
def impl_letterTo.f (k : Nat) (a0 : Int) (a1_0 : Int) (a1_1 : Int) (a1_2 : Int) (a2_0 : Int) (a2_1 : Int) (a2_2 : Int) : Option (Int) := if a2_0 < a1_0 then (some 117) else ((impl_toward.f k a0 a1_0 a1_1 a1_2 a2_0 a2_1 a2_2).bind fun t261 => (some ((wrap64 ((wrap64 (48 + t261)) - 1)) % 256)))
theorem impl_letterTo.calls (k : Nat) (a0 : Int) (a1_0 : Int) (a1_1 : Int) (a1_2 : Int) (a2_0 : Int) (a2_1 : Int) (a2_2 : Int) (r : Int) (w : World) (h : impl_letterTo.f k a0 a1_0 a1_1 a1_2 a2_0 a2_1 a2_2 = some r) :
  Calls Try.prog 135 #[.int .i64 a0, .agg #[.int .i64 a1_0, .int .i64 a1_1, .int .i64 a1_2], .agg #[.int .i64 a2_0, .int .i64 a2_1, .int .i64 a2_2]] w fun e w' => e = .returned (.int .u8 r) ∧ Below w.heap.size w w' := by
 have hu39 := Try.underlying39
 have HB := Aside0.mk (Below.refl w.heap.size w)
 have H : (if a2_0 < a1_0 then (some 117) else ((impl_toward.f k a0 a1_0 a1_1 a1_2 a2_0 a2_1 a2_2).bind fun t261 => (some ((wrap64 ((wrap64 (48 + t261)) - 1)) % 256)))) = some r := h
 clear h
 by_cases c4 : a2_0 < a1_0
 ·rw [if_pos c4] at H
  have c4b0 : decide (a2_0 < a1_0) = true := decide_eq_true c4
  clear c4
  obtain rfl := si_ H
  go_enter Try.func135, Try.ntmps135
  go_wp2_with (first | ((refine gd_ 4 ?_); refine bx_ 4 #[.int .i64 a1_0, .int .i64 a1_1, .int .i64 a1_2] 39 ?_; intro gb259 hg w5 BK259 hb; have GW259 := bs_ HB hg; have GE259 := bs_ HB hg; replace HB := bt_ HB hb; clear hb hg) | ((refine gd_ 5 ?_); refine bx_ 5 #[.int .i64 a2_0, .int .i64 a2_1, .int .i64 a2_2] 39 ?_; intro gb260 hg w6 BK260 hb; have GW260 := bs_ HB hg; have GE260 := bs_ HB hg; have NB259_260 := bm_ BK259 hg; have NB260_259 := bn_ BK259 hg; replace BK259 := bb_ BK259 hb; replace HB := bt_ HB hb; clear hb hg; have hnb7 := NB260_259.out; have hnc7 := NB259_260.out; obtain ⟨hcz8_0, hcz8_1, hcz8_2, hfz8_0, hfz8_1, hfz8_2⟩ := ch3_ BK260; obtain ⟨hcz9_0, hcz9_1, hcz9_2, hfz9_0, hfz9_1, hfz9_2⟩ := ch3_ BK259))
  go_ret
  exact ⟨es_, (bw_ HB).out⟩
 ·rw [if_neg c4] at H
  have c4b0 : decide (a2_0 < a1_0) = false := decide_eq_false c4
  clear c4
  replace H := ob_ H
  obtain ⟨t261, A100, H⟩ := H
  have A10 := Aside0.mk A100
  clear A100
  obtain rfl := si_ H
  go_enter Try.func135, Try.ntmps135
  go_wp2_with (first | ((refine gd_ 4 ?_); refine bx_ 4 #[.int .i64 a1_0, .int .i64 a1_1, .int .i64 a1_2] 39 ?_; intro gb259 hg w11 BK259 hb; have GW259 := bs_ HB hg; have GE259 := bs_ HB hg; replace HB := bt_ HB hb; clear hb hg) | ((refine gd_ 5 ?_); refine bx_ 5 #[.int .i64 a2_0, .int .i64 a2_1, .int .i64 a2_2] 39 ?_; intro gb260 hg w12 BK260 hb; have GW260 := bs_ HB hg; have GE260 := bs_ HB hg; have NB259_260 := bm_ BK259 hg; have NB260_259 := bn_ BK259 hg; replace BK259 := bb_ BK259 hb; replace HB := bt_ HB hb; clear hb hg; have hnb13 := NB260_259.out; have hnc13 := NB259_260.out; obtain ⟨hcz14_0, hcz14_1, hcz14_2, hfz14_0, hfz14_1, hfz14_2⟩ := ch3_ BK260; obtain ⟨hcz15_0, hcz15_1, hcz15_2, hfz15_0, hfz15_1, hfz15_2⟩ := ch3_ BK259) | ((refine gc_ 95 ?_); refine ge_ 15 Try.func95 #[.int .i64 a0, .agg #[.int .i64 a1_0, .int .i64 a1_1, .int .i64 a1_2], .agg #[.int .i64 a2_0, .int .i64 a2_1, .int .i64 a2_2]] ?_; (with_reducible refine (impl_toward.calls k a0 a1_0 a1_1 a1_2 a2_0 a2_1 a2_2 t261 _ A10.out).mono ?_); rintro e w16 ⟨rfl, hb⟩; refine ⟨_, rfl, ?_⟩; replace BK259 := bb_ BK259 hb; replace BK260 := bb_ BK260 hb; replace HB := bt_ HB hb; (try clear hb)))
  go_ret
  exact ⟨es_, (bw_ HB).out⟩
end Go.Proofs.Ytbilincmcnnonaa.QR
