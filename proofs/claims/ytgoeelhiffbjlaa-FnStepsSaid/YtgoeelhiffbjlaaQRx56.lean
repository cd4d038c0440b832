import Derived.Test.YtgoeelhiffbjlaaQRx8
import Derived.Test.YtgoeelhiffbjlaaQRx40
namespace Go.Proofs.Ytgoeelhiffbjlaa.QR
set_option maxHeartbeats 8000000
set_option maxRecDepth 100000
open Go.RowKit Go.Proofs.YtgoeelhiffbjlaaW.PrintWords Go.Proofs.YtgoeelhiffbjlaaW.PrintLast Go.Proofs.YtgoeelhiffbjlaaW.PrintMore
attribute [local go_sem] isSome_setCell max2_int min2_int max_two min_two max_three min_three max_four min_four
set_option linter.unusedVariables false
set_option linter.unusedSimpArgs false

/-! ### spec_l02Children: function 187 -/
def spec_l02Children.l0 : Nat → Int → List (S25) → Int → Int → Int → Int → Option ((List (S25)) × Bool)
 | 0, _, _, _, _, _, _ => none
 | k + 1, x0, x6, x7, x465000, x465001, x465002 => if x7 < x0 then ((spec_l01Child.f k x0 x465000 x465001 x465002 x7).bind fun bt468 => (if bt468.2.2.2 = true then (if x6.length < 5864062014805 then (spec_l02Children.l0 k x0 (x6 ++ [(⟨bt468.1, bt468.2.1, bt468.2.2.1⟩ : S25)]) (wrap64 (x7 + 1)) x465000 x465001 x465002) else (none)) else (some (([] : List (S25)), false)))) else (some (x6, true))
def spec_l02Children.f (k : Nat) (a0 : Int) (a1_0 : Int) (a1_1 : Int) (a1_2 : Int) : Option ((List (S25)) × Bool) := spec_l02Children.l0 k a0 (([] : List (S25))) 0 a1_0 a1_1 a1_2
theorem spec_l02Children.calls (k : Nat) (a0 : Int) (a1_0 : Int) (a1_1 : Int) (a1_2 : Int) (r1 : List (S25)) (r2 : Bool) (w : World) (h : spec_l02Children.f k a0 a1_0 a1_1 a1_2 = some (r1, r2)) :
  Calls Try.prog 187 #[.int .i64 a0, .agg #[.int .i64 a1_0, .int .i64 a1_1, .int .i64 a1_2]] w fun e w' => ∃ v0_ : Value, e = .returned (.tuple #[v0_, .bool r2]) ∧ Kd.R k25 25 w' w.heap.size (fun _ => True) v0_ r1 ∧ Below w.heap.size w w' := by
 have hu25 := Try.underlying25
 have HB := Aside0.mk (Below.refl w.heap.size w)
 have H : (spec_l02Children.l0 k a0 (([] : List (S25))) 0 a1_0 a1_1 a1_2) = some (r1, r2) := h
 clear h
 obtain ⟨y465, hy465⟩ : ∃ y_ : List (S25), y_ = (([] : List (S25))) := ⟨_, rfl⟩
 replace H : (spec_l02Children.l0 k a0 y465 0 a1_0 a1_1 a1_2) = some (r1, r2) := by first | (rw [hy465]; with_reducible exact H) | (have H2_ := (Option.bind_some _ _).symm.trans H; rw [hy465]; with_reducible exact H2_) | (have H2_ := (Option.bind_some _ _).symm.trans H; with_reducible exact H2_) | with_reducible exact H | (rw [hy465]; exact H) | exact H
 have Ny465 := Aside0.mk hy465
 clear hy465
 have H' := Aside0.mk H
 clear H
 go_enter Try.func187, Try.ntmps187
 go_wp2_with (first | ((refine gd_ 3 ?_); refine bx_ 3 #[.int .i64 a1_0, .int .i64 a1_1, .int .i64 a1_2] 25 ?_; intro gb464 hg w3 BK464 hb; have GW464 := bs_ HB hg; have GE464 := bs_ HB hg; replace HB := bt_ HB hb; clear hb hg) | ((refine gd_ 10 ?_); refine Kd.R_lit k25 _ 25 ?hg (N := 10) ?hd (xs := ([] : List (S25))) (inner := []) (ok := fun _ => True) (okp := fun _ => True) ?hr ?hp (fun _ hk => hk) trivial (Below.refl _ _) (Nat.le_refl _) (by simp) ?_; (case hd => rfl); (case hg => rfl); (case hr => first | (go_simp; done) | (go_simp; rfl)); (case hp => exact (Reps.none _ _)); intro v466 w4 ho5 hb hg_ hnew_; clear hg_ hnew_; (first | rw [← Ny465.out] at ho5 | (simp only [Int.reduceToNat] at ho5; rw [← Ny465.out] at ho5)); have HO467 := Aside0.mk (Kd.R_lower (Kd.R_newB ho5 (g := gb464) (o := .cells #[.int .i64 a1_0, .int .i64 a1_1, .int .i64 a1_2] 25 (0, 0)) (bl_ BK464).out) (below_size (bw_ HB).out)); replace BK464 := bb_ BK464 hb; replace HB := bt_ HB hb; clear hb ho5))
 go_loopg [6, 7] k (fun kq v6 v7 w' => ∃ (x6_1 : List (S25)) (x7_1 : Int), v7 = .int .i64 x7_1 ∧ Aside0 (spec_l02Children.l0 kq a0 x6_1 x7_1 a1_0 a1_1 a1_2 = some (r1, r2)) ∧ Aside0 (kq ≤ k) ∧ Aside0 (Kd.R k25 25 w' w.heap.size (fun k_ => k_ ≠ gb464) v6 x6_1) ∧ Aside0 (w'.heap[gb464]? = some (.cells #[.int .i64 a1_0, .int .i64 a1_1, .int .i64 a1_2] 25 (0, 0))) ∧ Aside0 (Below w.heap.size w w'))
 case atStart => exact ⟨(y465), (0), en_, H', ⟨Nat.le_refl _⟩, ⟨by (with_reducible repeat (first | apply Kd.R_alloc | apply Kd.R_drewN | apply Kd.R_drew)); exact Kd.R_mono HO467.out (fun _ hk => hk.2)⟩, bl_ BK464, bw_ HB⟩
 case round =>
  clear H'
  try clear c1
  try clear p2
  obtain ⟨x6_1, x7_1, rfl, HA, HK1, HO_6, BK464, HB⟩ := hrel
  cases gk with
  | zero => exact absurd HA.out (by simp [spec_l02Children.l0])
  | succ k1 =>
   have H := HA.out
   clear HA
   simp only [spec_l02Children.l0] at H
   by_cases c6 : x7_1 < a0
   ·rw [if_pos c6] at H
    have c6b0 : decide (x7_1 < a0) = true := decide_eq_true c6
    clear c6
    replace H := ob_ H
    obtain ⟨⟨t468, t469, t470, t471⟩, A70, H⟩ := H
    have A7 := Aside0.mk A70
    clear A70
    by_cases c8 : t471 = true
    ·subst c8
     have H1 : (if x6_1.length < 5864062014805 then (spec_l02Children.l0 k1 a0 (x6_1 ++ [(⟨t468, t469, t470⟩ : S25)]) (wrap64 (x7_1 + 1)) a1_0 a1_1 a1_2) else (none)) = some (r1, r2) := by rw [if_pos rfl] at H; exact H
     clear H
     have H := H1
     clear H1
     by_cases c9 : x6_1.length < 5864062014805
     ·rw [if_pos c9] at H
      have LMc9 := Aside0.mk c9
      clear c9
      obtain ⟨y473, hy473⟩ : ∃ y_ : List (S25), y_ = (x6_1 ++ [(⟨t468, t469, t470⟩ : S25)]) := ⟨_, rfl⟩
      replace H : (spec_l02Children.l0 k1 a0 y473 (wrap64 (x7_1 + 1)) a1_0 a1_1 a1_2) = some (r1, r2) := by first | (rw [hy473]; with_reducible exact H) | (have H2_ := (Option.bind_some _ _).symm.trans H; rw [hy473]; with_reducible exact H2_) | (have H2_ := (Option.bind_some _ _).symm.trans H; with_reducible exact H2_) | with_reducible exact H | (rw [hy473]; exact H) | exact H
      have Ny473 := Aside0.mk hy473
      clear hy473
      have H' := Aside0.mk H
      clear H
      obtain ⟨hcz10_0, hcz10_1, hcz10_2, hfz10_0, hfz10_1, hfz10_2⟩ := ch3_ BK464
      go_wp2_with (first | ((refine gc_ 153 ?_); refine ge_ 20 Try.func153 #[.int .i64 a0, .agg #[.int .i64 a1_0, .int .i64 a1_1, .int .i64 a1_2], .int .i64 x7_1] ?_; (with_reducible refine (spec_l01Child.calls k1 a0 a1_0 a1_1 a1_2 x7_1 t468 t469 t470 true _ A7.out).mono ?_); rintro e w11 ⟨rfl, hb⟩; refine ⟨_, rfl, ?_⟩; replace HO_6 := rb_ HO_6 hb; replace BK464 := bb_ BK464 hb; replace HB := bt_ HB hb; (try clear hb)) | ((refine gd_ 8 ?_); refine bx_ 8 #[.int .i64 0, .int .i64 0, .int .i64 0] 25 ?_; intro gb472 hg w12 BK472 hb; have GW472 := bs_ HB hg; have GE472 := bs_ HB hg; have NB464_472 := bm_ BK464 hg; have NB472_464 := bn_ BK464 hg; replace HO_6 := Aside0.mk (Kd.R_below (Kd.R_elderB (ra_ HO_6.out) gb472 (Nat.le_of_eq hg.symm)) hb); replace BK464 := bb_ BK464 hb; replace HB := bt_ HB hb; clear hb hg; have hnb13 := NB472_464.out; have hnc13 := NB464_472.out; obtain ⟨hcz14_0, hcz14_1, hcz14_2, hfz14_0, hfz14_1, hfz14_2⟩ := ch3_ BK472) | ((with_reducible refine gate_builtin (b := .append) (xs := #[.tmp 25, .tmp 27]) rfl ?_); at_builtin; refine Kd.R_append k25 (w0 := w) w.heap.size rfl (.tmp 25) (.tmp 27) 95 25 (.agg #[(.int .i64 0), (.int .i64 0), (.int .i64 0)]) 24 rfl Try.underlying95 info25 rfl (by decide) (by omega) u6 x6_1 (⟨t468, t469, t470⟩ : S25) [.int .i64 t468, .int .i64 t469, .int .i64 t470] (fun k_ => k_ ≠ gb464 ∧ k_ ≠ gb472) (fun _ => False) rfl (by first | (go_simp; done) | (go_simp; rfl)) ?aP (fun _ hk => hk.elim) ?aF ?aO ?aB ?aS ?aL ?_; (case aP => exact k25_mkM _ _ _ (⟨t468, t469, t470⟩ : S25)); (case aB => exact (bw_ HB).out); (case aF => exact (fun k_ hk => ⟨Kd.freshB (g := gb464) (o := .cells #[.int .i64 a1_0, .int .i64 a1_1, .int .i64 a1_2] 25 (0, 0)) (fl_ BK464 NB464_472).out k_ hk, Kd.freshB (g := gb472) (o := .cells #[.int .i64 t468, .int .i64 t469, .int .i64 t470] 25 (0, 0)) (bp_ BK472).out k_ hk⟩)); (case aO => exact (by (with_reducible repeat (first | apply Kd.R_alloc | apply Kd.R_drewN | apply Kd.R_drew)); exact Kd.R_mono (Kd.R_far (p := ⟨gb472, 2, none⟩) (Kd.R_far (p := ⟨gb472, 1, none⟩) (Kd.R_far (p := ⟨gb472, 0, none⟩) (Kd.R_mono HO_6.out (fun k_ hk => (⟨hk, hk.2⟩ : _ ∧ k_ ≠ gb472))) (fun _ hk => hk.2) (.int .i64 t468)) (fun _ hk => hk.2) (.int .i64 t469)) (fun _ hk => hk.2) (.int .i64 t470)) (fun _ hk => ⟨hk.1.1, hk.1.2⟩))); (case aS => exact (below_size (bw_ HB).out)); (case aL => have := LMc9.out; omega); intro v474 w15 ho hb hg hat; rw [← Ny473.out] at ho; have n0_ := Aside0.mk (blk_grown (g := gb464) (o := .cells #[.int .i64 a1_0, .int .i64 a1_1, .int .i64 a1_2] 25 (0, 0)) (fl_ BK464 NB464_472).out hg (Kd.R_away HO_6.out (fun _ hk => hk.1))); have n1_ := Aside0.mk (blk_grown (g := gb472) (o := .cells #[.int .i64 t468, .int .i64 t469, .int .i64 t470] 25 (0, 0)) (bp_ BK472).out hg (Kd.R_away HO_6.out (fun _ hk => hk.2))); have n2_ := Aside0.mk (hb); have n3_ := Aside0.mk (ho); clear BK464; clear BK472; clear HB; clear HO_6; have BK464 := n0_; have BK472 := n1_; have HB := n2_; have HO475 := n3_; clear n0_ n1_ n2_ n3_; clear ho hb hg hat))
      go_roundg k1
      case measure => have := HK1.out; omega
      case rel => exact ⟨(y473), (wrap64 (x7_1 + 1)), en_, H', ⟨by have := HK1.out; omega⟩, ⟨by (with_reducible repeat (first | apply Kd.R_alloc | apply Kd.R_drewN | apply Kd.R_drew)); exact Kd.R_mono HO475.out (fun _ hk => hk.1)⟩, bl_ BK464, bw_ HB⟩
     ·rw [if_neg c9] at H
      exact absurd H (by simp)
    ·replace c8 := Bool.eq_false_iff.mpr c8
     subst c8
     have H1 : (some (([] : List (S25)), false)) = some (r1, r2) := by rw [if_neg (show ¬ (false = true) by decide)] at H; exact H
     clear H
     have H := H1
     clear H1
     simp only [Option.some.injEq, Prod.mk.injEq] at H
     obtain ⟨rfl, rfl⟩ := H
     obtain ⟨hcz16_0, hcz16_1, hcz16_2, hfz16_0, hfz16_1, hfz16_2⟩ := ch3_ BK464
     go_wp2_with (first | ((refine gc_ 153 ?_); refine ge_ 20 Try.func153 #[.int .i64 a0, .agg #[.int .i64 a1_0, .int .i64 a1_1, .int .i64 a1_2], .int .i64 x7_1] ?_; (with_reducible refine (spec_l01Child.calls k1 a0 a1_0 a1_1 a1_2 x7_1 t468 t469 t470 false _ A7.out).mono ?_); rintro e w17 ⟨rfl, hb⟩; refine ⟨_, rfl, ?_⟩; replace HO_6 := rb_ HO_6 hb; replace BK464 := bb_ BK464 hb; replace HB := bt_ HB hb; (try clear hb)) | ((refine gd_ 8 ?_); refine bx_ 8 #[.int .i64 0, .int .i64 0, .int .i64 0] 25 ?_; intro gb472 hg w18 BK472 hb; have GW472 := bs_ HB hg; have GE472 := bs_ HB hg; have NB464_472 := bm_ BK464 hg; have NB472_464 := bn_ BK464 hg; replace HO_6 := Aside0.mk (Kd.R_below (Kd.R_elderB (ra_ HO_6.out) gb472 (Nat.le_of_eq hg.symm)) hb); replace BK464 := bb_ BK464 hb; replace HB := bt_ HB hb; clear hb hg; have hnb19 := NB472_464.out; have hnc19 := NB464_472.out; obtain ⟨hcz20_0, hcz20_1, hcz20_2, hfz20_0, hfz20_1, hfz20_2⟩ := ch3_ BK472))
     go_ret2
     exact ⟨_, es_, by first | exact Kd.R_nil _ _ _ _ _ | exact Kd.N_nil _ _ _ _ _ | exact Kd.V_nil _ _ _ _ _ | exact Kd.Q_nil _ _ _ _ _ | exact Kd.S_nil _ _ _ _ _, (bw_ HB).out⟩
   ·rw [if_neg c6] at H
    have c6b0 : decide (x7_1 < a0) = false := decide_eq_false c6
    clear c6
    simp only [Option.some.injEq, Prod.mk.injEq] at H
    obtain ⟨rfl, rfl⟩ := H
    go_wp2
    go_ret2
    exact ⟨_, es_, by (with_reducible repeat (first | apply Kd.R_alloc | apply Kd.R_drewN | apply Kd.R_drew)); exact Kd.R_mono HO_6.out (fun _ hk => trivial), (bw_ HB).out⟩
/-! ### spec_l02Near: function 156 -/
def spec_l02Near.f (k : Nat) (a0 : Int) (a1_0 : Int) (a1_1 : Int) (a1_2 : Int) : Option ((List (S25)) × Bool) := (spec_l01Parent.f k a0 a1_0 a1_1 a1_2).bind fun bt477 => ((spec_l02Children.f k a0 a1_0 a1_1 a1_2).bind fun bt482 => ((some (([(⟨bt477.1, bt477.2.1, bt477.2.2.1⟩ : S25)] : List (S25)) : List (S25))).bind fun y486 => (if y486.length + bt482.1.length < 5864062014805 then ((some (y486 ++ bt482.1 : List (S25))).bind fun y489 => (if bt477.2.2.2 = true then (some (y489, bt482.2)) else (some (y489, false)))) else (none))))
theorem spec_l02Near.calls (k : Nat) (a0 : Int) (a1_0 : Int) (a1_1 : Int) (a1_2 : Int) (r1 : List (S25)) (r2 : Bool) (w : World) (h : spec_l02Near.f k a0 a1_0 a1_1 a1_2 = some (r1, r2)) :
  Calls Try.prog 156 #[.int .i64 a0, .agg #[.int .i64 a1_0, .int .i64 a1_1, .int .i64 a1_2]] w fun e w' => ∃ v0_ : Value, e = .returned (.tuple #[v0_, .bool r2]) ∧ Kd.R k25 25 w' w.heap.size (fun _ => True) v0_ r1 ∧ Below w.heap.size w w' := by
 have hu25 := Try.underlying25
 have HB := Aside0.mk (Below.refl w.heap.size w)
 have H : ((spec_l01Parent.f k a0 a1_0 a1_1 a1_2).bind fun bt477 => ((spec_l02Children.f k a0 a1_0 a1_1 a1_2).bind fun bt482 => ((some (([(⟨bt477.1, bt477.2.1, bt477.2.2.1⟩ : S25)] : List (S25)) : List (S25))).bind fun y486 => (if y486.length + bt482.1.length < 5864062014805 then ((some (y486 ++ bt482.1 : List (S25))).bind fun y489 => (if bt477.2.2.2 = true then (some (y489, bt482.2)) else (some (y489, false)))) else (none))))) = some (r1, r2) := h
 clear h
 replace H := ob_ H
 obtain ⟨⟨t477, t478, t479, t480⟩, A30, H⟩ := H
 have A3 := Aside0.mk A30
 clear A30
 replace H := ob_ H
 obtain ⟨⟨t482, t485⟩, A40, H⟩ := H
 have A4 := Aside0.mk A40
 clear A40
 obtain ⟨y486, hy486⟩ : ∃ y_ : List (S25), y_ = (([(⟨t477, t478, t479⟩ : S25)] : List (S25))) := ⟨_, rfl⟩
 replace H : (if y486.length + t482.length < 5864062014805 then ((some (y486 ++ t482 : List (S25))).bind fun y489 => (if t480 = true then (some (y489, t485)) else (some (y489, false)))) else (none)) = some (r1, r2) := by first | (rw [hy486]; with_reducible exact H) | (have H2_ := (Option.bind_some _ _).symm.trans H; rw [hy486]; with_reducible exact H2_) | (have H2_ := (Option.bind_some _ _).symm.trans H; with_reducible exact H2_) | with_reducible exact H | (rw [hy486]; exact H) | exact H
 have Ny486 := Aside0.mk hy486
 clear hy486
 by_cases c5 : y486.length + t482.length < 5864062014805
 ·rw [if_pos c5] at H
  have LMc5 := Aside0.mk c5
  clear c5
  obtain ⟨y489, hy489⟩ : ∃ y_ : List (S25), y_ = (y486 ++ t482) := ⟨_, rfl⟩
  replace H : (if t480 = true then (some (y489, t485)) else (some (y489, false))) = some (r1, r2) := by first | (rw [hy489]; with_reducible exact H) | (have H2_ := (Option.bind_some _ _).symm.trans H; rw [hy489]; with_reducible exact H2_) | (have H2_ := (Option.bind_some _ _).symm.trans H; with_reducible exact H2_) | with_reducible exact H | (rw [hy489]; exact H) | exact H
  have Ny489 := Aside0.mk hy489
  clear hy489
  by_cases c6 : t480 = true
  ·subst c6
   have H1 : (some (y489, t485)) = some (r1, r2) := by rw [if_pos rfl] at H; exact H
   clear H
   have H := H1
   clear H1
   simp only [Option.some.injEq, Prod.mk.injEq] at H
   obtain ⟨rfl, rfl⟩ := H
   go_enter Try.func156, Try.ntmps156
   go_wp2_with (first | ((refine gd_ 3 ?_); refine bx_ 3 #[.int .i64 a1_0, .int .i64 a1_1, .int .i64 a1_2] 25 ?_; intro gb476 hg w7 BK476 hb; have GW476 := bs_ HB hg; have GE476 := bs_ HB hg; replace HB := bt_ HB hb; clear hb hg; obtain ⟨hcz8_0, hcz8_1, hcz8_2, hfz8_0, hfz8_1, hfz8_2⟩ := ch3_ BK476) | ((refine gc_ 152 ?_); refine ge_ 13 Try.func152 #[.int .i64 a0, .agg #[.int .i64 a1_0, .int .i64 a1_1, .int .i64 a1_2]] ?_; (with_reducible refine (spec_l01Parent.calls k a0 a1_0 a1_1 a1_2 t477 t478 t479 true _ A3.out).mono ?_); rintro e w9 ⟨rfl, hb⟩; refine ⟨_, rfl, ?_⟩; replace BK476 := bb_ BK476 hb; replace HB := bt_ HB hb; (try clear hb)) | ((refine gd_ 6 ?_); refine bx_ 6 #[.int .i64 0, .int .i64 0, .int .i64 0] 25 ?_; intro gb481 hg w10 BK481 hb; have GW481 := bs_ HB hg; have GE481 := bs_ HB hg; have NB476_481 := bm_ BK476 hg; have NB481_476 := bn_ BK476 hg; replace BK476 := bb_ BK476 hb; replace HB := bt_ HB hb; clear hb hg; have hnb11 := NB481_476.out; have hnc11 := NB476_481.out; obtain ⟨hcz12_0, hcz12_1, hcz12_2, hfz12_0, hfz12_1, hfz12_2⟩ := ch3_ BK481; obtain ⟨hcz13_0, hcz13_1, hcz13_2, hfz13_0, hfz13_1, hfz13_2⟩ := ch3_ BK476) | ((refine gc_ 187 ?_); refine ge_ 19 Try.func187 #[.int .i64 a0, .agg #[.int .i64 a1_0, .int .i64 a1_1, .int .i64 a1_2]] ?_; (with_reducible refine (spec_l02Children.calls k a0 a1_0 a1_1 a1_2 t482 t485 _ A4.out).mono ?_); rintro e w14 ⟨v483, rfl, ho0, hb⟩; refine ⟨_, rfl, ?_⟩; have HO484 := Aside0.mk (Kd.R_lower (Kd.R_newB (Kd.R_newB ho0 (g := gb476) (o := .cells #[.int .i64 a1_0, .int .i64 a1_1, .int .i64 a1_2] 25 (0, 0)) (fl_ BK476 NB476_481).out) (g := gb481) (o := .cells #[.int .i64 t477, .int .i64 t478, .int .i64 t479] 25 (0, 0)) (bp_ BK481).out) (below_size (bw_ HB).out)); replace BK476 := fb_ BK476 NB476_481 hb; replace BK481 := Aside0.mk (blk_below (g := gb481) (o := .cells #[.int .i64 t477, .int .i64 t478, .int .i64 t479] 25 (0, 0)) (bp_ BK481).out hb); replace HB := bt_ HB hb; (try clear hb); (try clear ho0); obtain ⟨hcz15_0, hcz15_1, hcz15_2, hfz15_0, hfz15_1, hfz15_2⟩ := ch3_ BK481) | ((refine gd_ 23 ?_); refine Kd.R_lit k25 _ 25 ?hg (N := 23) ?hd (xs := ([(⟨t477, t478, t479⟩ : S25)] : List (S25))) (inner := [.int .i64 t477, .int .i64 t478, .int .i64 t479]) (ok := fun _ => True) (okp := fun _ => True) ?hr ?hp (fun _ hk => hk) trivial (Below.refl _ _) (Nat.le_refl _) (by simp) ?_; (case hd => rfl); (case hg => rfl); (case hr => first | (go_simp; done) | (go_simp; rfl)); (case hp => exact (Reps.c3 (show Kd.M k25 _ _ _ (⟨t477, t478, t479⟩ : S25) [.int .i64 t477, .int .i64 t478, .int .i64 t479] from (k25_mkM _ _ _ (⟨t477, t478, t479⟩ : S25) )) (Reps.none _ _))); intro v487 w16 ho17 hb hg_ hnew_; clear hg_ hnew_; (first | rw [← Ny486.out] at ho17 | (simp only [Int.reduceToNat] at ho17; rw [← Ny486.out] at ho17)); have HO488 := Aside0.mk (Kd.R_lower (Kd.R_newB (Kd.R_newB (Kd.R_new' ho17 (Kd.R_lt (ra_ HO484.out))) (g := gb476) (o := .cells #[.int .i64 a1_0, .int .i64 a1_1, .int .i64 a1_2] 25 (0, 0)) (bl_ BK476).out) (g := gb481) (o := .cells #[.int .i64 t477, .int .i64 t478, .int .i64 t479] 25 (0, 0)) (bl_ BK481).out) (below_size (bw_ HB).out)); replace HO484 := Aside0.mk (Kd.R_elder' (ra_ HO484.out) (Kd.R_base ho17) hb); replace BK476 := bb_ BK476 hb; replace BK481 := bb_ BK481 hb; replace HB := bt_ HB hb; clear hb ho17; obtain ⟨Ao19, co19, eo19⟩ := Kd.R_slice HO484.out; subst eo19) | ((with_reducible refine gate_builtin (b := .append) (xs := #[.tmp 23, .tmp 24]) rfl ?_); at_builtin; refine Kd.R_append_rows k25 (w0 := w) w.heap.size rfl (.tmp 23) (.tmp 24) 95 25 (.agg #[(.int .i64 0), (.int .i64 0), (.int .i64 0)]) 24 rfl Try.underlying95 info25 rfl (by decide) (by omega) v487 y486 t482 _ _ _ (fun k_ => some k_ ≠ (.slice Ao19 t482.length co19 : Value).ownBlock ∧ k_ ≠ gb476 ∧ k_ ≠ gb481) (fun _ => False) rfl rfl ?aO ?aR (fun _ _ h => h) (fun _ h => h.elim) ?aF ?aB ?aS ?aL ?_; (case aR => repeat (first | exact (Kd.R_reads' HO484.out).2.2 | (with_reducible refine Kd.C_alloc ?_ _) | (with_reducible refine Kd.C_drewN ?_ _) | (with_reducible refine Kd.C_drew ?_))); (case aB => exact (bw_ HB).out); (case aF => exact (fun k_ hk => ⟨Kd.fresh' (Kd.R_lt (ra_ HO484.out)) k_ hk, Kd.freshB (g := gb476) (o := .cells #[.int .i64 a1_0, .int .i64 a1_1, .int .i64 a1_2] 25 (0, 0)) (bl_ BK476).out k_ hk, Kd.freshB (g := gb481) (o := .cells #[.int .i64 t477, .int .i64 t478, .int .i64 t479] 25 (0, 0)) (bl_ BK481).out k_ hk⟩)); (case aO => exact (by (with_reducible repeat (first | apply Kd.R_alloc | apply Kd.R_drewN | apply Kd.R_drew)); exact Kd.R_mono HO488.out (fun _ hk => ⟨hk.1.1.2, ⟨hk.1.2, hk.2⟩⟩))); (case aS => exact (below_size (bw_ HB).out)); (case aL => have := LMc5.out; omega); intro v490 w18 ho hb hg hat; rw [← Ny489.out] at ho; have n0_ := Aside0.mk (blk_grown (g := gb476) (o := .cells #[.int .i64 a1_0, .int .i64 a1_1, .int .i64 a1_2] 25 (0, 0)) (bl_ BK476).out hg (Kd.R_away HO488.out (fun _ hk => hk.1.2))); have n1_ := Aside0.mk (blk_grown (g := gb481) (o := .cells #[.int .i64 t477, .int .i64 t478, .int .i64 t479] 25 (0, 0)) (bl_ BK481).out hg (Kd.R_away HO488.out (fun _ hk => hk.2))); have n2_ := Aside0.mk (Kd.R_after (ok := (fun k_ => k_ ≠ gb476 ∧ k_ ≠ gb481)) (by (with_reducible repeat (first | apply Kd.R_alloc | apply Kd.R_drewN | apply Kd.R_drew)); exact Kd.R_mono HO484.out (fun _ hk => ⟨⟨hk.1.1.2, hk.1.2⟩, hk.2⟩)) hg hat); have n3_ := Aside0.mk (hb); have n4_ := Aside0.mk (ho); clear BK476; clear BK481; clear HO484; clear HB; clear HO488; have BK476 := n0_; have BK481 := n1_; have HO484 := n2_; have HB := n3_; have HO491 := n4_; clear n0_ n1_ n2_ n3_ n4_; clear ho hb hg hat))
   go_ret2
   exact ⟨_, es_, by (with_reducible repeat (first | apply Kd.R_alloc | apply Kd.R_drewN | apply Kd.R_drew)); exact Kd.R_mono HO491.out (fun _ hk => trivial), (bw_ HB).out⟩
  ·replace c6 := Bool.eq_false_iff.mpr c6
   subst c6
   have H1 : (some (y489, false)) = some (r1, r2) := by rw [if_neg (show ¬ (false = true) by decide)] at H; exact H
   clear H
   have H := H1
   clear H1
   simp only [Option.some.injEq, Prod.mk.injEq] at H
   obtain ⟨rfl, rfl⟩ := H
   go_enter Try.func156, Try.ntmps156
   go_wp2_with (first | ((refine gd_ 3 ?_); refine bx_ 3 #[.int .i64 a1_0, .int .i64 a1_1, .int .i64 a1_2] 25 ?_; intro gb476 hg w20 BK476 hb; have GW476 := bs_ HB hg; have GE476 := bs_ HB hg; replace HB := bt_ HB hb; clear hb hg; obtain ⟨hcz21_0, hcz21_1, hcz21_2, hfz21_0, hfz21_1, hfz21_2⟩ := ch3_ BK476) | ((refine gc_ 152 ?_); refine ge_ 13 Try.func152 #[.int .i64 a0, .agg #[.int .i64 a1_0, .int .i64 a1_1, .int .i64 a1_2]] ?_; (with_reducible refine (spec_l01Parent.calls k a0 a1_0 a1_1 a1_2 t477 t478 t479 false _ A3.out).mono ?_); rintro e w22 ⟨rfl, hb⟩; refine ⟨_, rfl, ?_⟩; replace BK476 := bb_ BK476 hb; replace HB := bt_ HB hb; (try clear hb)) | ((refine gd_ 6 ?_); refine bx_ 6 #[.int .i64 0, .int .i64 0, .int .i64 0] 25 ?_; intro gb481 hg w23 BK481 hb; have GW481 := bs_ HB hg; have GE481 := bs_ HB hg; have NB476_481 := bm_ BK476 hg; have NB481_476 := bn_ BK476 hg; replace BK476 := bb_ BK476 hb; replace HB := bt_ HB hb; clear hb hg; have hnb24 := NB481_476.out; have hnc24 := NB476_481.out; obtain ⟨hcz25_0, hcz25_1, hcz25_2, hfz25_0, hfz25_1, hfz25_2⟩ := ch3_ BK481; obtain ⟨hcz26_0, hcz26_1, hcz26_2, hfz26_0, hfz26_1, hfz26_2⟩ := ch3_ BK476) | ((refine gc_ 187 ?_); refine ge_ 19 Try.func187 #[.int .i64 a0, .agg #[.int .i64 a1_0, .int .i64 a1_1, .int .i64 a1_2]] ?_; (with_reducible refine (spec_l02Children.calls k a0 a1_0 a1_1 a1_2 t482 t485 _ A4.out).mono ?_); rintro e w27 ⟨v483, rfl, ho0, hb⟩; refine ⟨_, rfl, ?_⟩; have HO484 := Aside0.mk (Kd.R_lower (Kd.R_newB (Kd.R_newB ho0 (g := gb476) (o := .cells #[.int .i64 a1_0, .int .i64 a1_1, .int .i64 a1_2] 25 (0, 0)) (fl_ BK476 NB476_481).out) (g := gb481) (o := .cells #[.int .i64 t477, .int .i64 t478, .int .i64 t479] 25 (0, 0)) (bp_ BK481).out) (below_size (bw_ HB).out)); replace BK476 := fb_ BK476 NB476_481 hb; replace BK481 := Aside0.mk (blk_below (g := gb481) (o := .cells #[.int .i64 t477, .int .i64 t478, .int .i64 t479] 25 (0, 0)) (bp_ BK481).out hb); replace HB := bt_ HB hb; (try clear hb); (try clear ho0); obtain ⟨hcz28_0, hcz28_1, hcz28_2, hfz28_0, hfz28_1, hfz28_2⟩ := ch3_ BK481) | ((refine gd_ 23 ?_); refine Kd.R_lit k25 _ 25 ?hg (N := 23) ?hd (xs := ([(⟨t477, t478, t479⟩ : S25)] : List (S25))) (inner := [.int .i64 t477, .int .i64 t478, .int .i64 t479]) (ok := fun _ => True) (okp := fun _ => True) ?hr ?hp (fun _ hk => hk) trivial (Below.refl _ _) (Nat.le_refl _) (by simp) ?_; (case hd => rfl); (case hg => rfl); (case hr => first | (go_simp; done) | (go_simp; rfl)); (case hp => exact (Reps.c3 (show Kd.M k25 _ _ _ (⟨t477, t478, t479⟩ : S25) [.int .i64 t477, .int .i64 t478, .int .i64 t479] from (k25_mkM _ _ _ (⟨t477, t478, t479⟩ : S25) )) (Reps.none _ _))); intro v487 w29 ho30 hb hg_ hnew_; clear hg_ hnew_; (first | rw [← Ny486.out] at ho30 | (simp only [Int.reduceToNat] at ho30; rw [← Ny486.out] at ho30)); have HO488 := Aside0.mk (Kd.R_lower (Kd.R_newB (Kd.R_newB (Kd.R_new' ho30 (Kd.R_lt (ra_ HO484.out))) (g := gb476) (o := .cells #[.int .i64 a1_0, .int .i64 a1_1, .int .i64 a1_2] 25 (0, 0)) (bl_ BK476).out) (g := gb481) (o := .cells #[.int .i64 t477, .int .i64 t478, .int .i64 t479] 25 (0, 0)) (bl_ BK481).out) (below_size (bw_ HB).out)); replace HO484 := Aside0.mk (Kd.R_elder' (ra_ HO484.out) (Kd.R_base ho30) hb); replace BK476 := bb_ BK476 hb; replace BK481 := bb_ BK481 hb; replace HB := bt_ HB hb; clear hb ho30; obtain ⟨Ao32, co32, eo32⟩ := Kd.R_slice HO484.out; subst eo32) | ((with_reducible refine gate_builtin (b := .append) (xs := #[.tmp 23, .tmp 24]) rfl ?_); at_builtin; refine Kd.R_append_rows k25 (w0 := w) w.heap.size rfl (.tmp 23) (.tmp 24) 95 25 (.agg #[(.int .i64 0), (.int .i64 0), (.int .i64 0)]) 24 rfl Try.underlying95 info25 rfl (by decide) (by omega) v487 y486 t482 _ _ _ (fun k_ => some k_ ≠ (.slice Ao32 t482.length co32 : Value).ownBlock ∧ k_ ≠ gb476 ∧ k_ ≠ gb481) (fun _ => False) rfl rfl ?aO ?aR (fun _ _ h => h) (fun _ h => h.elim) ?aF ?aB ?aS ?aL ?_; (case aR => repeat (first | exact (Kd.R_reads' HO484.out).2.2 | (with_reducible refine Kd.C_alloc ?_ _) | (with_reducible refine Kd.C_drewN ?_ _) | (with_reducible refine Kd.C_drew ?_))); (case aB => exact (bw_ HB).out); (case aF => exact (fun k_ hk => ⟨Kd.fresh' (Kd.R_lt (ra_ HO484.out)) k_ hk, Kd.freshB (g := gb476) (o := .cells #[.int .i64 a1_0, .int .i64 a1_1, .int .i64 a1_2] 25 (0, 0)) (bl_ BK476).out k_ hk, Kd.freshB (g := gb481) (o := .cells #[.int .i64 t477, .int .i64 t478, .int .i64 t479] 25 (0, 0)) (bl_ BK481).out k_ hk⟩)); (case aO => exact (by (with_reducible repeat (first | apply Kd.R_alloc | apply Kd.R_drewN | apply Kd.R_drew)); exact Kd.R_mono HO488.out (fun _ hk => ⟨hk.1.1.2, ⟨hk.1.2, hk.2⟩⟩))); (case aS => exact (below_size (bw_ HB).out)); (case aL => have := LMc5.out; omega); intro v490 w31 ho hb hg hat; rw [← Ny489.out] at ho; have n0_ := Aside0.mk (blk_grown (g := gb476) (o := .cells #[.int .i64 a1_0, .int .i64 a1_1, .int .i64 a1_2] 25 (0, 0)) (bl_ BK476).out hg (Kd.R_away HO488.out (fun _ hk => hk.1.2))); have n1_ := Aside0.mk (blk_grown (g := gb481) (o := .cells #[.int .i64 t477, .int .i64 t478, .int .i64 t479] 25 (0, 0)) (bl_ BK481).out hg (Kd.R_away HO488.out (fun _ hk => hk.2))); have n2_ := Aside0.mk (Kd.R_after (ok := (fun k_ => k_ ≠ gb476 ∧ k_ ≠ gb481)) (by (with_reducible repeat (first | apply Kd.R_alloc | apply Kd.R_drewN | apply Kd.R_drew)); exact Kd.R_mono HO484.out (fun _ hk => ⟨⟨hk.1.1.2, hk.1.2⟩, hk.2⟩)) hg hat); have n3_ := Aside0.mk (hb); have n4_ := Aside0.mk (ho); clear BK476; clear BK481; clear HO484; clear HB; clear HO488; have BK476 := n0_; have BK481 := n1_; have HO484 := n2_; have HB := n3_; have HO491 := n4_; clear n0_ n1_ n2_ n3_ n4_; clear ho hb hg hat))
   go_ret2
   exact ⟨_, es_, by (with_reducible repeat (first | apply Kd.R_alloc | apply Kd.R_drewN | apply Kd.R_drew)); exact Kd.R_mono HO491.out (fun _ hk => trivial), (bw_ HB).out⟩
 ·rw [if_neg c5] at H
  exact absurd H (by simp)
end Go.Proofs.Ytgoeelhiffbjlaa.QR
