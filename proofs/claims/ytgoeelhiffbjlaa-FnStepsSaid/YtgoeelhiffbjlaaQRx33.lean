import Derived.Test.YtgoeelhiffbjlaaQRx8
import Derived.Test.YtgoeelhiffbjlaaQRx30
namespace Go.Proofs.Ytgoeelhiffbjlaa.QR
set_option maxHeartbeats 8000000
set_option maxRecDepth 100000
open Go.RowKit Go.Proofs.YtgoeelhiffbjlaaW.PrintWords Go.Proofs.YtgoeelhiffbjlaaW.PrintLast Go.Proofs.YtgoeelhiffbjlaaW.PrintMore
attribute [local go_sem] isSome_setCell max2_int min2_int max_two min_two max_three min_three max_four min_four
set_option linter.unusedVariables false
set_option linter.unusedSimpArgs false

/-! ### impl_follow: function 77 -/
def impl_follow.l0 : Nat → Int → ByteArray → List (S25) → Int → Int → Int → Int → Int → Option ((List (S25)) × Bool)
 | 0, _, _, _, _, _, _, _, _ => none
 | k + 1, x0, x2, x8, x16, x17, x305000, x305001, x305002 => if x17 < x16 then (if 0 ≤ x17 then (if x17 < (x2.size : Int) then (if (bt x2 x17) = 117 then ((impl_neighbour.f k x0 x305000 x305001 x305002 0).bind fun bt308 => (if bt308.2.2.2 = true then (if x8.length < 5864062014805 then (impl_follow.l0 k x0 x2 (x8 ++ [(⟨bt308.1, bt308.2.1, bt308.2.2.1⟩ : S25)]) x16 (wrap64 (x17 + 1)) bt308.1 bt308.2.1 bt308.2.2.1) else (none)) else (some (([] : List (S25)), false)))) else ((impl_neighbour.f k x0 x305000 x305001 x305002 ((((bt x2 x17) - 48) % 256) + 1)).bind fun bt316 => (if bt316.2.2.2 = true then (if x8.length < 5864062014805 then (impl_follow.l0 k x0 x2 (x8 ++ [(⟨bt316.1, bt316.2.1, bt316.2.2.1⟩ : S25)]) x16 (wrap64 (x17 + 1)) bt316.1 bt316.2.1 bt316.2.2.1) else (none)) else (some (([] : List (S25)), false))))) else (none)) else (none)) else (some (x8, true))
def impl_follow.f (k : Nat) (a0 : Int) (a1_0 : Int) (a1_1 : Int) (a1_2 : Int) (a2 : ByteArray) : Option ((List (S25)) × Bool) := impl_follow.l0 k a0 a2 (([(⟨a1_0, a1_1, a1_2⟩ : S25)] : List (S25))) (a2.size : Int) 0 a1_0 a1_1 a1_2
theorem impl_follow.calls (k : Nat) (a0 : Int) (a1_0 : Int) (a1_1 : Int) (a1_2 : Int) (a2 : ByteArray) (r1 : List (S25)) (r2 : Bool) (w : World) (h : impl_follow.f k a0 a1_0 a1_1 a1_2 a2 = some (r1, r2)) :
  Calls Try.prog 77 #[.int .i64 a0, .agg #[.int .i64 a1_0, .int .i64 a1_1, .int .i64 a1_2], .string a2] w fun e w' => ∃ v0_ : Value, e = .returned (.tuple #[v0_, .bool r2]) ∧ Kd.R k25 25 w' w.heap.size (fun _ => True) v0_ r1 ∧ Below w.heap.size w w' := by
 have hu25 := Try.underlying25
 have HB := Aside0.mk (Below.refl w.heap.size w)
 have H : (impl_follow.l0 k a0 a2 (([(⟨a1_0, a1_1, a1_2⟩ : S25)] : List (S25))) (a2.size : Int) 0 a1_0 a1_1 a1_2) = some (r1, r2) := h
 clear h
 obtain ⟨y305, hy305⟩ : ∃ y_ : List (S25), y_ = (([(⟨a1_0, a1_1, a1_2⟩ : S25)] : List (S25))) := ⟨_, rfl⟩
 replace H : (impl_follow.l0 k a0 a2 y305 (a2.size : Int) 0 a1_0 a1_1 a1_2) = some (r1, r2) := by first | (rw [hy305]; with_reducible exact H) | (have H2_ := (Option.bind_some _ _).symm.trans H; rw [hy305]; with_reducible exact H2_) | (have H2_ := (Option.bind_some _ _).symm.trans H; with_reducible exact H2_) | with_reducible exact H | (rw [hy305]; exact H) | exact H
 have Ny305 := Aside0.mk hy305
 clear hy305
 have H' := Aside0.mk H
 clear H
 go_enter Try.func77, Try.ntmps77
 go_wp2_with (first | ((refine gd_ 4 ?_); refine bx_ 4 #[.int .i64 a1_0, .int .i64 a1_1, .int .i64 a1_2] 25 ?_; intro gb304 hg w4 BK304 hb; have GW304 := bs_ HB hg; have GE304 := bs_ HB hg; replace HB := bt_ HB hb; clear hb hg; obtain ⟨hcz5_0, hcz5_1, hcz5_2, hfz5_0, hfz5_1, hfz5_2⟩ := ch3_ BK304) | ((refine gd_ 14 ?_); refine Kd.R_lit k25 _ 25 ?hg (N := 14) ?hd (xs := ([(⟨a1_0, a1_1, a1_2⟩ : S25)] : List (S25))) (inner := [.int .i64 a1_0, .int .i64 a1_1, .int .i64 a1_2]) (ok := fun _ => True) (okp := fun _ => True) ?hr ?hp (fun _ hk => hk) trivial (Below.refl _ _) (Nat.le_refl _) (by simp) ?_; (case hd => rfl); (case hg => rfl); (case hr => first | (go_simp; done) | (go_simp; rfl)); (case hp => exact (Reps.c3 (show Kd.M k25 _ _ _ (⟨a1_0, a1_1, a1_2⟩ : S25) [.int .i64 a1_0, .int .i64 a1_1, .int .i64 a1_2] from (k25_mkM _ _ _ (⟨a1_0, a1_1, a1_2⟩ : S25) )) (Reps.none _ _))); intro v306 w6 ho7 hb hg_ hnew_; clear hg_ hnew_; (first | rw [← Ny305.out] at ho7 | (simp only [Int.reduceToNat] at ho7; rw [← Ny305.out] at ho7)); have HO307 := Aside0.mk (Kd.R_lower (Kd.R_newB ho7 (g := gb304) (o := .cells #[.int .i64 a1_0, .int .i64 a1_1, .int .i64 a1_2] 25 (0, 0)) (bl_ BK304).out) (below_size (bw_ HB).out)); replace BK304 := bb_ BK304 hb; replace HB := bt_ HB hb; clear hb ho7))
 go_loopg [8, 17] k (fun kq v8 v17 w' => ∃ (x8_1 : List (S25)) (x17_1 : Int) (x305000_1 : Int) (x305001_1 : Int) (x305002_1 : Int), v17 = .int .i64 x17_1 ∧ Aside0 (impl_follow.l0 kq a0 a2 x8_1 (a2.size : Int) x17_1 x305000_1 x305001_1 x305002_1 = some (r1, r2)) ∧ Aside0 (kq ≤ k) ∧ Aside0 (Kd.R k25 25 w' w.heap.size (fun k_ => k_ ≠ gb304) v8 x8_1) ∧ Aside0 (w'.heap[gb304]? = some (.cells #[.int .i64 x305000_1, .int .i64 x305001_1, .int .i64 x305002_1] 25 (0, 0))) ∧ Aside0 (Below w.heap.size w w'))
 case atStart => exact ⟨(y305), (0), (a1_0), (a1_1), (a1_2), en_, H', ⟨Nat.le_refl _⟩, ⟨by (with_reducible repeat (first | apply Kd.R_alloc | apply Kd.R_drewN | apply Kd.R_drew)); exact Kd.R_mono HO307.out (fun _ hk => hk.2)⟩, bl_ BK304, bw_ HB⟩
 case round =>
  clear H'
  try clear p2
  try clear c3
  try clear c7
  try clear hcz5_0 hcz5_1 hcz5_2
  try clear hfz5_0 hfz5_1 hfz5_2
  obtain ⟨x8_1, x17_1, x305000_1, x305001_1, x305002_1, rfl, HA, HK1, HO_8, BK304, HB⟩ := hrel
  cases gk with
  | zero => exact absurd HA.out (by simp [impl_follow.l0])
  | succ k1 =>
   have H := HA.out
   clear HA
   simp only [impl_follow.l0] at H
   by_cases c8 : x17_1 < (a2.size : Int)
   ·rw [if_pos c8] at H
    have c8b0 : decide (x17_1 < (a2.size : Int)) = true := decide_eq_true c8
    clear c8
    by_cases c9 : 0 ≤ x17_1
    ·rw [if_pos c9] at H
     have c9b0 : decide (0 ≤ x17_1) = true := decide_eq_true c9
     clear c9
     by_cases c10 : x17_1 < (a2.size : Int)
     ·rw [if_pos c10] at H
      have c10b0 : decide (x17_1 < (a2.size : Int)) = true := decide_eq_true c10
      clear c10
      by_cases c12 : (bt a2 x17_1) = 117
      ·rw [if_pos c12] at H
       have c12b0 : ((bt a2 x17_1) == 117) = true := beq_iff_eq.mpr c12
       have c12b1 : ((bt a2 x17_1) != 117) = false := bne_eq_false_iff_eq.mpr c12
       clear c12
       replace H := ob_ H
       obtain ⟨⟨t308, t309, t310, t311⟩, A130, H⟩ := H
       have A13 := Aside0.mk A130
       clear A130
       by_cases c14 : t311 = true
       ·subst c14
        have H1 : (if x8_1.length < 5864062014805 then (impl_follow.l0 k1 a0 a2 (x8_1 ++ [(⟨t308, t309, t310⟩ : S25)]) (a2.size : Int) (wrap64 (x17_1 + 1)) t308 t309 t310) else (none)) = some (r1, r2) := by rw [if_pos rfl] at H; exact H
        clear H
        have H := H1
        clear H1
        by_cases c15 : x8_1.length < 5864062014805
        ·rw [if_pos c15] at H
         have LMc15 := Aside0.mk c15
         clear c15
         obtain ⟨y313, hy313⟩ : ∃ y_ : List (S25), y_ = (x8_1 ++ [(⟨t308, t309, t310⟩ : S25)]) := ⟨_, rfl⟩
         replace H : (impl_follow.l0 k1 a0 a2 y313 (a2.size : Int) (wrap64 (x17_1 + 1)) t308 t309 t310) = some (r1, r2) := by first | (rw [hy313]; with_reducible exact H) | (have H2_ := (Option.bind_some _ _).symm.trans H; rw [hy313]; with_reducible exact H2_) | (have H2_ := (Option.bind_some _ _).symm.trans H; with_reducible exact H2_) | with_reducible exact H | (rw [hy313]; exact H) | exact H
         have Ny313 := Aside0.mk hy313
         clear hy313
         have H' := Aside0.mk H
         clear H
         have p11 : 0 ≤ (x17_1 : Int) := od_
         have q11 : x17_1 < (a2.size : Int) := od_
         have hx11 := bt_at a2 x17_1
         replace p11 := eq_true p11
         replace q11 := eq_true q11
         obtain ⟨hcz16_0, hcz16_1, hcz16_2, hfz16_0, hfz16_1, hfz16_2⟩ := ch3_ BK304
         go_wp2_with (first | ((refine gc_ 150 ?_); refine ge_ 34 Try.func150 #[.int .i64 a0, .agg #[.int .i64 x305000_1, .int .i64 x305001_1, .int .i64 x305002_1], .int .i64 0] ?_; (with_reducible refine (impl_neighbour.calls k1 a0 x305000_1 x305001_1 x305002_1 0 t308 t309 t310 true _ A13.out).mono ?_); rintro e w17 ⟨rfl, hb⟩; refine ⟨_, rfl, ?_⟩; replace HO_8 := rb_ HO_8 hb; replace BK304 := bb_ BK304 hb; replace HB := bt_ HB hb; (try clear hb)) | ((refine gd_ 11 ?_); refine bx_ 11 #[.int .i64 0, .int .i64 0, .int .i64 0] 25 ?_; intro gb312 hg w18 BK312 hb; have GW312 := bs_ HB hg; have GE312 := bs_ HB hg; have NB304_312 := bm_ BK304 hg; have NB312_304 := bn_ BK304 hg; replace HO_8 := Aside0.mk (Kd.R_below (Kd.R_elderB (ra_ HO_8.out) gb312 (Nat.le_of_eq hg.symm)) hb); replace BK304 := bb_ BK304 hb; replace HB := bt_ HB hb; clear hb hg; have hnb19 := NB312_304.out; have hnc19 := NB304_312.out; obtain ⟨hcz20_0, hcz20_1, hcz20_2, hfz20_0, hfz20_1, hfz20_2⟩ := ch3_ BK312; obtain ⟨hcz21_0, hcz21_1, hcz21_2, hfz21_0, hfz21_1, hfz21_2⟩ := ch3_ BK304) | ((with_reducible refine gate_builtin (b := .append) (xs := #[.tmp 40, .tmp 42]) rfl ?_); at_builtin; refine Kd.R_append k25 (w0 := w) w.heap.size rfl (.tmp 40) (.tmp 42) 95 25 (.agg #[(.int .i64 0), (.int .i64 0), (.int .i64 0)]) 24 rfl Try.underlying95 info25 rfl (by decide) (by omega) u8 x8_1 (⟨t308, t309, t310⟩ : S25) [.int .i64 t308, .int .i64 t309, .int .i64 t310] (fun k_ => k_ ≠ gb304 ∧ k_ ≠ gb312) (fun _ => False) rfl (by first | (go_simp; done) | (go_simp; rfl)) ?aP (fun _ hk => hk.elim) ?aF ?aO ?aB ?aS ?aL ?_; (case aP => exact k25_mkM _ _ _ (⟨t308, t309, t310⟩ : S25)); (case aB => exact (bw_ HB).out); (case aF => exact (fun k_ hk => ⟨Kd.freshB (g := gb304) (o := .cells #[.int .i64 t308, .int .i64 t309, .int .i64 t310] 25 (0, 0)) (bp_ BK304).out k_ hk, Kd.freshB (g := gb312) (o := .cells #[.int .i64 t308, .int .i64 t309, .int .i64 t310] 25 (0, 0)) (bp_ BK312).out k_ hk⟩)); (case aO => exact (by (with_reducible repeat (first | apply Kd.R_alloc | apply Kd.R_drewN | apply Kd.R_drew)); exact Kd.R_mono (Kd.R_far (p := ⟨gb304, 2, none⟩) (Kd.R_far (p := ⟨gb304, 1, none⟩) (Kd.R_far (p := ⟨gb304, 0, none⟩) (Kd.R_far (p := ⟨gb312, 2, none⟩) (Kd.R_far (p := ⟨gb312, 1, none⟩) (Kd.R_far (p := ⟨gb312, 0, none⟩) (Kd.R_mono (Kd.R_mono HO_8.out (fun k_ hk => (⟨hk, hk.2⟩ : _ ∧ k_ ≠ gb312))) (fun k_ hk => (⟨hk, hk.1.1⟩ : _ ∧ k_ ≠ gb304))) (fun _ hk => hk.1.2) (.int .i64 t308)) (fun _ hk => hk.1.2) (.int .i64 t309)) (fun _ hk => hk.1.2) (.int .i64 t310)) (fun _ hk => hk.2) (.int .i64 t308)) (fun _ hk => hk.2) (.int .i64 t309)) (fun _ hk => hk.2) (.int .i64 t310)) (fun _ hk => ⟨hk.1.1.1, hk.1.1.2⟩))); (case aS => exact (below_size (bw_ HB).out)); (case aL => have := LMc15.out; omega); intro v314 w22 ho hb hg hat; rw [← Ny313.out] at ho; have n0_ := Aside0.mk (blk_grown (g := gb304) (o := .cells #[.int .i64 t308, .int .i64 t309, .int .i64 t310] 25 (0, 0)) (bp_ BK304).out hg (Kd.R_away HO_8.out (fun _ hk => hk.1))); have n1_ := Aside0.mk (blk_grown (g := gb312) (o := .cells #[.int .i64 t308, .int .i64 t309, .int .i64 t310] 25 (0, 0)) (bp_ BK312).out hg (Kd.R_away HO_8.out (fun _ hk => hk.2))); have n2_ := Aside0.mk (hb); have n3_ := Aside0.mk (ho); clear BK304; clear BK312; clear HB; clear HO_8; have BK304 := n0_; have BK312 := n1_; have HB := n2_; have HO315 := n3_; clear n0_ n1_ n2_ n3_; clear ho hb hg hat))
         go_roundg k1
         case measure => have := HK1.out; omega
         case rel => exact ⟨(y313), (wrap64 (x17_1 + 1)), (t308), (t309), (t310), en_, H', ⟨by have := HK1.out; omega⟩, ⟨by (with_reducible repeat (first | apply Kd.R_alloc | apply Kd.R_drewN | apply Kd.R_drew)); exact Kd.R_mono HO315.out (fun _ hk => hk.1)⟩, bl_ BK304, bw_ HB⟩
        ·rw [if_neg c15] at H
         exact absurd H (by simp)
       ·replace c14 := Bool.eq_false_iff.mpr c14
        subst c14
        have H1 : (some (([] : List (S25)), false)) = some (r1, r2) := by rw [if_neg (show ¬ (false = true) by decide)] at H; exact H
        clear H
        have H := H1
        clear H1
        simp only [Option.some.injEq, Prod.mk.injEq] at H
        obtain ⟨rfl, rfl⟩ := H
        have p11 : 0 ≤ (x17_1 : Int) := od_
        have q11 : x17_1 < (a2.size : Int) := od_
        have hx11 := bt_at a2 x17_1
        replace p11 := eq_true p11
        replace q11 := eq_true q11
        obtain ⟨hcz23_0, hcz23_1, hcz23_2, hfz23_0, hfz23_1, hfz23_2⟩ := ch3_ BK304
        go_wp2_with (first | ((refine gc_ 150 ?_); refine ge_ 34 Try.func150 #[.int .i64 a0, .agg #[.int .i64 x305000_1, .int .i64 x305001_1, .int .i64 x305002_1], .int .i64 0] ?_; (with_reducible refine (impl_neighbour.calls k1 a0 x305000_1 x305001_1 x305002_1 0 t308 t309 t310 false _ A13.out).mono ?_); rintro e w24 ⟨rfl, hb⟩; refine ⟨_, rfl, ?_⟩; replace HO_8 := rb_ HO_8 hb; replace BK304 := bb_ BK304 hb; replace HB := bt_ HB hb; (try clear hb)) | ((refine gd_ 11 ?_); refine bx_ 11 #[.int .i64 0, .int .i64 0, .int .i64 0] 25 ?_; intro gb312 hg w25 BK312 hb; have GW312 := bs_ HB hg; have GE312 := bs_ HB hg; have NB304_312 := bm_ BK304 hg; have NB312_304 := bn_ BK304 hg; replace HO_8 := Aside0.mk (Kd.R_below (Kd.R_elderB (ra_ HO_8.out) gb312 (Nat.le_of_eq hg.symm)) hb); replace BK304 := bb_ BK304 hb; replace HB := bt_ HB hb; clear hb hg; have hnb26 := NB312_304.out; have hnc26 := NB304_312.out; obtain ⟨hcz27_0, hcz27_1, hcz27_2, hfz27_0, hfz27_1, hfz27_2⟩ := ch3_ BK312))
        go_ret2
        exact ⟨_, es_, by first | exact Kd.R_nil _ _ _ _ _ | exact Kd.N_nil _ _ _ _ _ | exact Kd.V_nil _ _ _ _ _ | exact Kd.Q_nil _ _ _ _ _ | exact Kd.S_nil _ _ _ _ _, (bw_ HB).out⟩
      ·rw [if_neg c12] at H
       have c12b0 : ((bt a2 x17_1) == 117) = false := beq_eq_false_iff_ne.mpr c12
       have c12b1 : ((bt a2 x17_1) != 117) = true := bne_iff_ne.mpr c12
       replace H := ob_ H
       obtain ⟨⟨t316, t317, t318, t319⟩, A290, H⟩ := H
       have A29 := Aside0.mk A290
       clear A290
       by_cases c30 : t319 = true
       ·subst c30
        have H1 : (if x8_1.length < 5864062014805 then (impl_follow.l0 k1 a0 a2 (x8_1 ++ [(⟨t316, t317, t318⟩ : S25)]) (a2.size : Int) (wrap64 (x17_1 + 1)) t316 t317 t318) else (none)) = some (r1, r2) := by rw [if_pos rfl] at H; exact H
        clear H
        have H := H1
        clear H1
        by_cases c31 : x8_1.length < 5864062014805
        ·rw [if_pos c31] at H
         have LMc31 := Aside0.mk c31
         clear c31
         obtain ⟨y321, hy321⟩ : ∃ y_ : List (S25), y_ = (x8_1 ++ [(⟨t316, t317, t318⟩ : S25)]) := ⟨_, rfl⟩
         replace H : (impl_follow.l0 k1 a0 a2 y321 (a2.size : Int) (wrap64 (x17_1 + 1)) t316 t317 t318) = some (r1, r2) := by first | (rw [hy321]; with_reducible exact H) | (have H2_ := (Option.bind_some _ _).symm.trans H; rw [hy321]; with_reducible exact H2_) | (have H2_ := (Option.bind_some _ _).symm.trans H; with_reducible exact H2_) | with_reducible exact H | (rw [hy321]; exact H) | exact H
         have Ny321 := Aside0.mk hy321
         clear hy321
         have H' := Aside0.mk H
         clear H
         have p11 : 0 ≤ (x17_1 : Int) := od_
         have q11 : x17_1 < (a2.size : Int) := od_
         have hx11 := bt_at a2 x17_1
         replace p11 := eq_true p11
         replace q11 := eq_true q11
         have p28 : 0 ≤ (x17_1 : Int) := od_
         have q28 : x17_1 < (a2.size : Int) := od_
         have hx28 := bt_at a2 x17_1
         replace p28 := eq_true p28
         replace q28 := eq_true q28
         obtain ⟨hcz32_0, hcz32_1, hcz32_2, hfz32_0, hfz32_1, hfz32_2⟩ := ch3_ BK304
         go_wp2_with (first | ((refine gc_ 150 ?_); refine ge_ 34 Try.func150 #[.int .i64 a0, .agg #[.int .i64 x305000_1, .int .i64 x305001_1, .int .i64 x305002_1], .int .i64 ((((bt a2 x17_1) - 48) % 256) + 1)] ?_; (with_reducible refine (impl_neighbour.calls k1 a0 x305000_1 x305001_1 x305002_1 ((((bt a2 x17_1) - 48) % 256) + 1) t316 t317 t318 true _ A29.out).mono ?_); rintro e w33 ⟨rfl, hb⟩; refine ⟨_, rfl, ?_⟩; replace HO_8 := rb_ HO_8 hb; replace BK304 := bb_ BK304 hb; replace HB := bt_ HB hb; (try clear hb)) | ((refine gd_ 11 ?_); refine bx_ 11 #[.int .i64 0, .int .i64 0, .int .i64 0] 25 ?_; intro gb320 hg w34 BK320 hb; have GW320 := bs_ HB hg; have GE320 := bs_ HB hg; have NB304_320 := bm_ BK304 hg; have NB320_304 := bn_ BK304 hg; replace HO_8 := Aside0.mk (Kd.R_below (Kd.R_elderB (ra_ HO_8.out) gb320 (Nat.le_of_eq hg.symm)) hb); replace BK304 := bb_ BK304 hb; replace HB := bt_ HB hb; clear hb hg; have hnb35 := NB320_304.out; have hnc35 := NB304_320.out; obtain ⟨hcz36_0, hcz36_1, hcz36_2, hfz36_0, hfz36_1, hfz36_2⟩ := ch3_ BK320; obtain ⟨hcz37_0, hcz37_1, hcz37_2, hfz37_0, hfz37_1, hfz37_2⟩ := ch3_ BK304) | ((with_reducible refine gate_builtin (b := .append) (xs := #[.tmp 40, .tmp 42]) rfl ?_); at_builtin; refine Kd.R_append k25 (w0 := w) w.heap.size rfl (.tmp 40) (.tmp 42) 95 25 (.agg #[(.int .i64 0), (.int .i64 0), (.int .i64 0)]) 24 rfl Try.underlying95 info25 rfl (by decide) (by omega) u8 x8_1 (⟨t316, t317, t318⟩ : S25) [.int .i64 t316, .int .i64 t317, .int .i64 t318] (fun k_ => k_ ≠ gb304 ∧ k_ ≠ gb320) (fun _ => False) rfl (by first | (go_simp; done) | (go_simp; rfl)) ?aP (fun _ hk => hk.elim) ?aF ?aO ?aB ?aS ?aL ?_; (case aP => exact k25_mkM _ _ _ (⟨t316, t317, t318⟩ : S25)); (case aB => exact (bw_ HB).out); (case aF => exact (fun k_ hk => ⟨Kd.freshB (g := gb304) (o := .cells #[.int .i64 t316, .int .i64 t317, .int .i64 t318] 25 (0, 0)) (bp_ BK304).out k_ hk, Kd.freshB (g := gb320) (o := .cells #[.int .i64 t316, .int .i64 t317, .int .i64 t318] 25 (0, 0)) (bp_ BK320).out k_ hk⟩)); (case aO => exact (by (with_reducible repeat (first | apply Kd.R_alloc | apply Kd.R_drewN | apply Kd.R_drew)); exact Kd.R_mono (Kd.R_far (p := ⟨gb304, 2, none⟩) (Kd.R_far (p := ⟨gb304, 1, none⟩) (Kd.R_far (p := ⟨gb304, 0, none⟩) (Kd.R_far (p := ⟨gb320, 2, none⟩) (Kd.R_far (p := ⟨gb320, 1, none⟩) (Kd.R_far (p := ⟨gb320, 0, none⟩) (Kd.R_mono (Kd.R_mono HO_8.out (fun k_ hk => (⟨hk, hk.2⟩ : _ ∧ k_ ≠ gb320))) (fun k_ hk => (⟨hk, hk.1.1⟩ : _ ∧ k_ ≠ gb304))) (fun _ hk => hk.1.2) (.int .i64 t316)) (fun _ hk => hk.1.2) (.int .i64 t317)) (fun _ hk => hk.1.2) (.int .i64 t318)) (fun _ hk => hk.2) (.int .i64 t316)) (fun _ hk => hk.2) (.int .i64 t317)) (fun _ hk => hk.2) (.int .i64 t318)) (fun _ hk => ⟨hk.1.1.1, hk.1.1.2⟩))); (case aS => exact (below_size (bw_ HB).out)); (case aL => have := LMc31.out; omega); intro v322 w38 ho hb hg hat; rw [← Ny321.out] at ho; have n0_ := Aside0.mk (blk_grown (g := gb304) (o := .cells #[.int .i64 t316, .int .i64 t317, .int .i64 t318] 25 (0, 0)) (bp_ BK304).out hg (Kd.R_away HO_8.out (fun _ hk => hk.1))); have n1_ := Aside0.mk (blk_grown (g := gb320) (o := .cells #[.int .i64 t316, .int .i64 t317, .int .i64 t318] 25 (0, 0)) (bp_ BK320).out hg (Kd.R_away HO_8.out (fun _ hk => hk.2))); have n2_ := Aside0.mk (hb); have n3_ := Aside0.mk (ho); clear BK304; clear BK320; clear HB; clear HO_8; have BK304 := n0_; have BK320 := n1_; have HB := n2_; have HO323 := n3_; clear n0_ n1_ n2_ n3_; clear ho hb hg hat))
         go_roundg k1
         case measure => have := HK1.out; omega
         case rel => exact ⟨(y321), (wrap64 (x17_1 + 1)), (t316), (t317), (t318), en_, H', ⟨by have := HK1.out; omega⟩, ⟨by (with_reducible repeat (first | apply Kd.R_alloc | apply Kd.R_drewN | apply Kd.R_drew)); exact Kd.R_mono HO323.out (fun _ hk => hk.1)⟩, bl_ BK304, bw_ HB⟩
        ·rw [if_neg c31] at H
         exact absurd H (by simp)
       ·replace c30 := Bool.eq_false_iff.mpr c30
        subst c30
        have H1 : (some (([] : List (S25)), false)) = some (r1, r2) := by rw [if_neg (show ¬ (false = true) by decide)] at H; exact H
        clear H
        have H := H1
        clear H1
        simp only [Option.some.injEq, Prod.mk.injEq] at H
        obtain ⟨rfl, rfl⟩ := H
        have p11 : 0 ≤ (x17_1 : Int) := od_
        have q11 : x17_1 < (a2.size : Int) := od_
        have hx11 := bt_at a2 x17_1
        replace p11 := eq_true p11
        replace q11 := eq_true q11
        have p28 : 0 ≤ (x17_1 : Int) := od_
        have q28 : x17_1 < (a2.size : Int) := od_
        have hx28 := bt_at a2 x17_1
        replace p28 := eq_true p28
        replace q28 := eq_true q28
        obtain ⟨hcz39_0, hcz39_1, hcz39_2, hfz39_0, hfz39_1, hfz39_2⟩ := ch3_ BK304
        go_wp2_with (first | ((refine gc_ 150 ?_); refine ge_ 34 Try.func150 #[.int .i64 a0, .agg #[.int .i64 x305000_1, .int .i64 x305001_1, .int .i64 x305002_1], .int .i64 ((((bt a2 x17_1) - 48) % 256) + 1)] ?_; (with_reducible refine (impl_neighbour.calls k1 a0 x305000_1 x305001_1 x305002_1 ((((bt a2 x17_1) - 48) % 256) + 1) t316 t317 t318 false _ A29.out).mono ?_); rintro e w40 ⟨rfl, hb⟩; refine ⟨_, rfl, ?_⟩; replace HO_8 := rb_ HO_8 hb; replace BK304 := bb_ BK304 hb; replace HB := bt_ HB hb; (try clear hb)) | ((refine gd_ 11 ?_); refine bx_ 11 #[.int .i64 0, .int .i64 0, .int .i64 0] 25 ?_; intro gb320 hg w41 BK320 hb; have GW320 := bs_ HB hg; have GE320 := bs_ HB hg; have NB304_320 := bm_ BK304 hg; have NB320_304 := bn_ BK304 hg; replace HO_8 := Aside0.mk (Kd.R_below (Kd.R_elderB (ra_ HO_8.out) gb320 (Nat.le_of_eq hg.symm)) hb); replace BK304 := bb_ BK304 hb; replace HB := bt_ HB hb; clear hb hg; have hnb42 := NB320_304.out; have hnc42 := NB304_320.out; obtain ⟨hcz43_0, hcz43_1, hcz43_2, hfz43_0, hfz43_1, hfz43_2⟩ := ch3_ BK320))
        go_ret2
        exact ⟨_, es_, by first | exact Kd.R_nil _ _ _ _ _ | exact Kd.N_nil _ _ _ _ _ | exact Kd.V_nil _ _ _ _ _ | exact Kd.Q_nil _ _ _ _ _ | exact Kd.S_nil _ _ _ _ _, (bw_ HB).out⟩
     ·rw [if_neg c10] at H
      exact absurd H (by simp)
    ·rw [if_neg c9] at H
     exact absurd H (by simp)
   ·rw [if_neg c8] at H
    have c8b0 : decide (x17_1 < (a2.size : Int)) = false := decide_eq_false c8
    clear c8
    simp only [Option.some.injEq, Prod.mk.injEq] at H
    obtain ⟨rfl, rfl⟩ := H
    go_wp2
    go_ret2
    exact ⟨_, es_, by (with_reducible repeat (first | apply Kd.R_alloc | apply Kd.R_drewN | apply Kd.R_drew)); exact Kd.R_mono HO_8.out (fun _ hk => trivial), (bw_ HB).out⟩
/-! ### impl_FollowSteps: function 10 -/
def impl_FollowSteps.f (k : Nat) (a0 : Int) (a1_0 : Int) (a1_1 : Int) (a1_2 : Int) (a2 : ByteArray) : Option (Int × Int × Int × Int) := (impl_stepsCode.f k a0 a1_0 a1_1 a1_2 a2).bind fun t326 => (if t326 = 0 then ((impl_follow.f k a0 a1_0 a1_1 a1_2 a2).bind fun bt327 => (if bt327.2 = true then (if 0 ≤ (wrap64 ((bt327.1.length : Int) - 1)) then (if (wrap64 ((bt327.1.length : Int) - 1)) < (bt327.1.length : Int) then (some ((rd_T25 bt327.1 (wrap64 ((bt327.1.length : Int) - 1))).f0, (rd_T25 bt327.1 (wrap64 ((bt327.1.length : Int) - 1))).f1, (rd_T25 bt327.1 (wrap64 ((bt327.1.length : Int) - 1))).f2, 0)) else (none)) else (none)) else (some (0, 0, 0, 3)))) else (some (0, 0, 0, t326)))
theorem impl_FollowSteps.calls (k : Nat) (a0 : Int) (a1_0 : Int) (a1_1 : Int) (a1_2 : Int) (a2 : ByteArray) (r1 : Int) (r2 : Int) (r3 : Int) (r4 : Int) (w : World) (h : impl_FollowSteps.f k a0 a1_0 a1_1 a1_2 a2 = some (r1, r2, r3, r4)) :
  Calls Try.prog 10 #[.int .i64 a0, .agg #[.int .i64 a1_0, .int .i64 a1_1, .int .i64 a1_2], .string a2] w fun e w' => e = .returned (.tuple #[.agg #[.int .i64 r1, .int .i64 r2, .int .i64 r3], .int .i64 r4]) ∧ Below w.heap.size w w' := by
 have hu25 := Try.underlying25
 have HB := Aside0.mk (Below.refl w.heap.size w)
 have H : ((impl_stepsCode.f k a0 a1_0 a1_1 a1_2 a2).bind fun t326 => (if t326 = 0 then ((impl_follow.f k a0 a1_0 a1_1 a1_2 a2).bind fun bt327 => (if bt327.2 = true then (if 0 ≤ (wrap64 ((bt327.1.length : Int) - 1)) then (if (wrap64 ((bt327.1.length : Int) - 1)) < (bt327.1.length : Int) then (some ((rd_T25 bt327.1 (wrap64 ((bt327.1.length : Int) - 1))).f0, (rd_T25 bt327.1 (wrap64 ((bt327.1.length : Int) - 1))).f1, (rd_T25 bt327.1 (wrap64 ((bt327.1.length : Int) - 1))).f2, 0)) else (none)) else (none)) else (some (0, 0, 0, 3)))) else (some (0, 0, 0, t326)))) = some (r1, r2, r3, r4) := h
 clear h
 replace H := ob_ H
 obtain ⟨t326, A40, H⟩ := H
 have A4 := Aside0.mk A40
 clear A40
 by_cases c5 : t326 = 0
 ·rw [if_pos c5] at H
  have c5b0 : (t326 == 0) = true := beq_iff_eq.mpr c5
  have c5b1 : (t326 != 0) = false := bne_eq_false_iff_eq.mpr c5
  clear c5
  replace H := ob_ H
  obtain ⟨⟨t327, t330⟩, A60, H⟩ := H
  have A6 := Aside0.mk A60
  clear A60
  by_cases c7 : t330 = true
  ·subst c7
   have H1 : (if 0 ≤ (wrap64 ((t327.length : Int) - 1)) then (if (wrap64 ((t327.length : Int) - 1)) < (t327.length : Int) then (some ((rd_T25 t327 (wrap64 ((t327.length : Int) - 1))).f0, (rd_T25 t327 (wrap64 ((t327.length : Int) - 1))).f1, (rd_T25 t327 (wrap64 ((t327.length : Int) - 1))).f2, 0)) else (none)) else (none)) = some (r1, r2, r3, r4) := by rw [if_pos rfl] at H; exact H
   clear H
   have H := H1
   clear H1
   obtain ⟨ji8, hji8⟩ : ∃ j_ : Int, (wrap64 ((t327.length : Int) - 1)) = j_ := ⟨_, rfl⟩
   replace H : (if 0 ≤ (ji8) then (if (ji8) < (t327.length : Int) then (some ((rd_T25 t327 (ji8)).f0, (rd_T25 t327 (ji8)).f1, (rd_T25 t327 (ji8)).f2, 0)) else (none)) else (none)) = some (r1, r2, r3, r4) := by first | (rw [hji8] at H; exact H) | (simp only [hji8] at H ⊢; exact H)
   (try rw [hji8] at A4)
   (try rw [hji8] at A6)
   have hji8w : (IntKind.i64.wrap ((t327.length : Int) - 1)) = ji8 := (i64_w _).trans hji8
   by_cases c9 : 0 ≤ (ji8)
   ·rw [if_pos c9] at H
    have c9b0 : decide (0 ≤ (ji8)) = true := decide_eq_true c9
    clear c9
    by_cases c10 : (ji8) < (t327.length : Int)
    ·rw [if_pos c10] at H
     have c10b0 : decide ((ji8) < (t327.length : Int)) = true := decide_eq_true c10
     clear c10
     simp only [Option.some.injEq, Prod.mk.injEq] at H
     obtain ⟨rfl, rfl, rfl, rfl⟩ := H
     go_enter Try.func10, Try.ntmps10
     go_wp2_with (first | ((refine gd_ 4 ?_); refine bx_ 4 #[.int .i64 a1_0, .int .i64 a1_1, .int .i64 a1_2] 25 ?_; intro gb324 hg w11 BK324 hb; have GW324 := bs_ HB hg; have GE324 := bs_ HB hg; replace HB := bt_ HB hb; clear hb hg) | ((refine gd_ 6 ?_); refine bx_ 6 #[.int .i64 0, .int .i64 0, .int .i64 0] 25 ?_; intro gb325 hg w12 BK325 hb; have GW325 := bs_ HB hg; have GE325 := bs_ HB hg; have NB324_325 := bm_ BK324 hg; have NB325_324 := bn_ BK324 hg; replace BK324 := bb_ BK324 hb; replace HB := bt_ HB hb; clear hb hg; have hnb13 := NB324_325.out; have hnc13 := NB325_324.out; obtain ⟨hcz14_0, hcz14_1, hcz14_2, hfz14_0, hfz14_1, hfz14_2⟩ := ch3_ BK324) | ((refine gc_ 76 ?_); refine ge_ 14 Try.func76 #[.int .i64 a0, .agg #[.int .i64 a1_0, .int .i64 a1_1, .int .i64 a1_2], .string a2] ?_; (with_reducible refine (impl_stepsCode.calls k a0 a1_0 a1_1 a1_2 a2 t326 _ A4.out).mono ?_); rintro e w15 ⟨rfl, hb⟩; refine ⟨_, rfl, ?_⟩; replace BK324 := bb_ BK324 hb; replace BK325 := bb_ BK325 hb; replace HB := bt_ HB hb; (try clear hb); obtain ⟨hcz16_0, hcz16_1, hcz16_2, hfz16_0, hfz16_1, hfz16_2⟩ := ch3_ BK324) | ((refine gc_ 77 ?_); refine ge_ 23 Try.func77 #[.int .i64 a0, .agg #[.int .i64 a1_0, .int .i64 a1_1, .int .i64 a1_2], .string a2] ?_; (with_reducible refine (impl_follow.calls k a0 a1_0 a1_1 a1_2 a2 t327 true _ A6.out).mono ?_); rintro e w17 ⟨v328, rfl, ho0, hb⟩; refine ⟨_, rfl, ?_⟩; have HO329 := Aside0.mk (Kd.R_lower (Kd.R_newB (Kd.R_newB ho0 (g := gb324) (o := .cells #[.int .i64 a1_0, .int .i64 a1_1, .int .i64 a1_2] 25 (0, 0)) (bl_ BK324).out) (g := gb325) (o := .cells #[.int .i64 0, .int .i64 0, .int .i64 0] 25 (0, 0)) (bl_ BK325).out) (below_size (bw_ HB).out)); replace BK324 := bb_ BK324 hb; replace BK325 := bb_ BK325 hb; replace HB := bt_ HB hb; (try clear hb); (try clear ho0); obtain ⟨Ao18, co18, eo18⟩ := Kd.R_slice HO329.out; subst eo18; have p331 : 0 ≤ ((ji8) : Int) := od_; have q331 : (ji8) < (t327.length : Int) := od_; obtain ⟨ad331, e331, hx331_0, hx331_1, hx331_2⟩ := at_T25 (Kd.R_reads' HO329.out).2.2 (ji8) p331 q331; cases e331; replace p331 := eq_true p331; replace q331 := eq_true q331; obtain ⟨hcz19_0, hcz19_1, hcz19_2, hfz19_0, hfz19_1, hfz19_2⟩ := ch3_ BK325))
     refine bodyPost_ret (results_ct rfl _ _ gb325 25 #[.int .i64 ((rd_T25 t327 (ji8)).f0), .int .i64 ((rd_T25 t327 (ji8)).f1), .int .i64 ((rd_T25 t327 (ji8)).f2)] (0, 0) _ rfl (bp_ BK325).out Try.underlying25 rfl (by kernel_rfl)) rfl ?_
     exact ⟨by first | rfl | (simp [errW_none, errW_some] <;> rfl) | (simp only [← hji8]; first | rfl | (simp [errW_none, errW_some] <;> rfl)) | (simp [*, errW_none, errW_some] <;> rfl), (bw_ HB).out⟩
    ·rw [if_neg c10] at H
     exact absurd H (by simp)
   ·rw [if_neg c9] at H
    exact absurd H (by simp)
  ·replace c7 := Bool.eq_false_iff.mpr c7
   subst c7
   have H1 : (some (0, 0, 0, 3)) = some (r1, r2, r3, r4) := by rw [if_neg (show ¬ (false = true) by decide)] at H; exact H
   clear H
   have H := H1
   clear H1
   simp only [Option.some.injEq, Prod.mk.injEq] at H
   obtain ⟨rfl, rfl, rfl, rfl⟩ := H
   go_enter Try.func10, Try.ntmps10
   go_wp2_with (first | ((refine gd_ 4 ?_); refine bx_ 4 #[.int .i64 a1_0, .int .i64 a1_1, .int .i64 a1_2] 25 ?_; intro gb324 hg w20 BK324 hb; have GW324 := bs_ HB hg; have GE324 := bs_ HB hg; replace HB := bt_ HB hb; clear hb hg) | ((refine gd_ 6 ?_); refine bx_ 6 #[.int .i64 0, .int .i64 0, .int .i64 0] 25 ?_; intro gb325 hg w21 BK325 hb; have GW325 := bs_ HB hg; have GE325 := bs_ HB hg; have NB324_325 := bm_ BK324 hg; have NB325_324 := bn_ BK324 hg; replace BK324 := bb_ BK324 hb; replace HB := bt_ HB hb; clear hb hg; have hnb22 := NB324_325.out; have hnc22 := NB325_324.out; obtain ⟨hcz23_0, hcz23_1, hcz23_2, hfz23_0, hfz23_1, hfz23_2⟩ := ch3_ BK324) | ((refine gc_ 76 ?_); refine ge_ 14 Try.func76 #[.int .i64 a0, .agg #[.int .i64 a1_0, .int .i64 a1_1, .int .i64 a1_2], .string a2] ?_; (with_reducible refine (impl_stepsCode.calls k a0 a1_0 a1_1 a1_2 a2 t326 _ A4.out).mono ?_); rintro e w24 ⟨rfl, hb⟩; refine ⟨_, rfl, ?_⟩; replace BK324 := bb_ BK324 hb; replace BK325 := bb_ BK325 hb; replace HB := bt_ HB hb; (try clear hb); obtain ⟨hcz25_0, hcz25_1, hcz25_2, hfz25_0, hfz25_1, hfz25_2⟩ := ch3_ BK324) | ((refine gc_ 77 ?_); refine ge_ 23 Try.func77 #[.int .i64 a0, .agg #[.int .i64 a1_0, .int .i64 a1_1, .int .i64 a1_2], .string a2] ?_; (with_reducible refine (impl_follow.calls k a0 a1_0 a1_1 a1_2 a2 t327 false _ A6.out).mono ?_); rintro e w26 ⟨v328, rfl, ho0, hb⟩; refine ⟨_, rfl, ?_⟩; have HO329 := Aside0.mk (Kd.R_lower (Kd.R_newB (Kd.R_newB ho0 (g := gb324) (o := .cells #[.int .i64 a1_0, .int .i64 a1_1, .int .i64 a1_2] 25 (0, 0)) (bl_ BK324).out) (g := gb325) (o := .cells #[.int .i64 0, .int .i64 0, .int .i64 0] 25 (0, 0)) (bl_ BK325).out) (below_size (bw_ HB).out)); replace BK324 := bb_ BK324 hb; replace BK325 := bb_ BK325 hb; replace HB := bt_ HB hb; (try clear hb); (try clear ho0); obtain ⟨hcz27_0, hcz27_1, hcz27_2, hfz27_0, hfz27_1, hfz27_2⟩ := ch3_ BK325))
   refine bodyPost_ret (results_ct rfl _ _ gb325 25 #[.int .i64 0, .int .i64 0, .int .i64 0] (0, 0) _ rfl (bp_ BK325).out Try.underlying25 rfl (by kernel_rfl)) rfl ?_
   exact ⟨es_, (bw_ HB).out⟩
 ·rw [if_neg c5] at H
  have c5b0 : (t326 == 0) = false := beq_eq_false_iff_ne.mpr c5
  have c5b1 : (t326 != 0) = true := bne_iff_ne.mpr c5
  simp only [Option.some.injEq, Prod.mk.injEq] at H
  obtain ⟨rfl, rfl, rfl, rfl⟩ := H
  go_enter Try.func10, Try.ntmps10
  go_wp2_with (first | ((refine gd_ 4 ?_); refine bx_ 4 #[.int .i64 a1_0, .int .i64 a1_1, .int .i64 a1_2] 25 ?_; intro gb324 hg w28 BK324 hb; have GW324 := bs_ HB hg; have GE324 := bs_ HB hg; replace HB := bt_ HB hb; clear hb hg) | ((refine gd_ 6 ?_); refine bx_ 6 #[.int .i64 0, .int .i64 0, .int .i64 0] 25 ?_; intro gb325 hg w29 BK325 hb; have GW325 := bs_ HB hg; have GE325 := bs_ HB hg; have NB324_325 := bm_ BK324 hg; have NB325_324 := bn_ BK324 hg; replace BK324 := bb_ BK324 hb; replace HB := bt_ HB hb; clear hb hg; have hnb30 := NB324_325.out; have hnc30 := NB325_324.out; obtain ⟨hcz31_0, hcz31_1, hcz31_2, hfz31_0, hfz31_1, hfz31_2⟩ := ch3_ BK324) | ((refine gc_ 76 ?_); refine ge_ 14 Try.func76 #[.int .i64 a0, .agg #[.int .i64 a1_0, .int .i64 a1_1, .int .i64 a1_2], .string a2] ?_; (with_reducible refine (impl_stepsCode.calls k a0 a1_0 a1_1 a1_2 a2 t326 _ A4.out).mono ?_); rintro e w32 ⟨rfl, hb⟩; refine ⟨_, rfl, ?_⟩; replace BK324 := bb_ BK324 hb; replace BK325 := bb_ BK325 hb; replace HB := bt_ HB hb; (try clear hb); obtain ⟨hcz33_0, hcz33_1, hcz33_2, hfz33_0, hfz33_1, hfz33_2⟩ := ch3_ BK325))
  refine bodyPost_ret (results_ct rfl _ _ gb325 25 #[.int .i64 0, .int .i64 0, .int .i64 0] (0, 0) _ rfl (bp_ BK325).out Try.underlying25 rfl (by kernel_rfl)) rfl ?_
  exact ⟨es_, (bw_ HB).out⟩
/-! ### spec_l01Prime: function 121 -/
def spec_l01Prime.f (a0 : Int) : Option (Bool) := if a0 = 2 then (some true) else (if a0 = 3 then (some true) else (if a0 = 5 then (some true) else (some (a0 == 7))))
theorem spec_l01Prime.calls (a0 : Int) (r : Bool) (w : World) (h : spec_l01Prime.f a0 = some r) :
  Calls Try.prog 121 #[.int .i64 a0] w fun e w' => e = .returned (.bool r) ∧ Drawn0 w w' := by
 have H : (if a0 = 2 then (some true) else (if a0 = 3 then (some true) else (if a0 = 5 then (some true) else (some (a0 == 7))))) = some r := h
 clear h
 by_cases c2 : a0 = 2
 ·rw [if_pos c2] at H
  have c2b0 : (a0 == 2) = true := beq_iff_eq.mpr c2
  have c2b1 : (a0 != 2) = false := bne_eq_false_iff_eq.mpr c2
  clear c2
  obtain rfl := si_ H
  go_enter Try.func121, Try.ntmps121
  go_wp2
  go_ret
  exact ⟨en_, de_⟩
 ·rw [if_neg c2] at H
  have c2b0 : (a0 == 2) = false := beq_eq_false_iff_ne.mpr c2
  have c2b1 : (a0 != 2) = true := bne_iff_ne.mpr c2
  by_cases c3 : a0 = 3
  ·rw [if_pos c3] at H
   have c3b0 : (a0 == 3) = true := beq_iff_eq.mpr c3
   have c3b1 : (a0 != 3) = false := bne_eq_false_iff_eq.mpr c3
   clear c3
   obtain rfl := si_ H
   go_enter Try.func121, Try.ntmps121
   go_wp2
   go_ret
   exact ⟨en_, de_⟩
  ·rw [if_neg c3] at H
   have c3b0 : (a0 == 3) = false := beq_eq_false_iff_ne.mpr c3
   have c3b1 : (a0 != 3) = true := bne_iff_ne.mpr c3
   by_cases c4 : a0 = 5
   ·rw [if_pos c4] at H
    have c4b0 : (a0 == 5) = true := beq_iff_eq.mpr c4
    have c4b1 : (a0 != 5) = false := bne_eq_false_iff_eq.mpr c4
    clear c4
    obtain rfl := si_ H
    go_enter Try.func121, Try.ntmps121
    go_wp2
    go_ret
    exact ⟨en_, de_⟩
   ·rw [if_neg c4] at H
    have c4b0 : (a0 == 5) = false := beq_eq_false_iff_ne.mpr c4
    have c4b1 : (a0 != 5) = true := bne_iff_ne.mpr c4
    obtain rfl := si_ H
    go_enter Try.func121, Try.ntmps121
    go_wp2
    go_ret
    exact ⟨en_, de_⟩
end Go.Proofs.Ytgoeelhiffbjlaa.QR
