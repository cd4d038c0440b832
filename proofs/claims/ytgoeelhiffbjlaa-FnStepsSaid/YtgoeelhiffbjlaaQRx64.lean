import Derived.Test.YtgoeelhiffbjlaaQRx8
import Derived.Test.YtgoeelhiffbjlaaQRx61
import Derived.Test.YtgoeelhiffbjlaaQRx50
namespace Go.Proofs.Ytgoeelhiffbjlaa.QR
set_option maxHeartbeats 8000000
set_option maxRecDepth 100000
open Go.RowKit Go.Proofs.YtgoeelhiffbjlaaW.PrintWords Go.Proofs.YtgoeelhiffbjlaaW.PrintLast Go.Proofs.YtgoeelhiffbjlaaW.PrintMore
attribute [local go_sem] isSome_setCell max2_int min2_int max_two min_two max_three min_three max_four min_four
set_option linter.unusedVariables false
set_option linter.unusedSimpArgs false

/-! ### impl_geodesic: function 115 -/
mutual
def impl_geodesic.l0 : Nat → Int → Int → List (S25) → Int → Int → Int → Int → Int → Int → Int → Option ((List (S25)))
 | 0, _, _, _, _, _, _, _, _, _, _ => none
 | k + 1, x0, x7, x8, x9, x569000, x569001, x569002, x570000, x570001, x570002 => if x9 ≥ x7 then ((impl_above.f k x0 x569000 x569001 x569002 x9).bind fun bt574 => (if x8.length < 5864062014805 then (impl_geodesic.l0 k x0 x7 (x8 ++ [(⟨bt574.1, bt574.2.1, bt574.2.2⟩ : S25)]) (wrap64 (x9 - 1)) x569000 x569001 x569002 x570000 x570001 x570002) else (none))) else (impl_geodesic.l1 k x0 x8 (wrap64 (x7 + 1)) x570000 x570001 x570002)
def impl_geodesic.l1 : Nat → Int → List (S25) → Int → Int → Int → Int → Option ((List (S25)))
 | 0, _, _, _, _, _, _ => none
 | k + 1, x0, x8, x10, x570000, x570001, x570002 => if x10 ≤ x570000 then ((impl_above.f k x0 x570000 x570001 x570002 x10).bind fun bt580 => (if x8.length < 5864062014805 then (impl_geodesic.l1 k x0 (x8 ++ [(⟨bt580.1, bt580.2.1, bt580.2.2⟩ : S25)]) (wrap64 (x10 + 1)) x570000 x570001 x570002) else (none))) else (some x8)
end
def impl_geodesic.f (k : Nat) (a0 : Int) (a1_0 : Int) (a1_1 : Int) (a1_2 : Int) (a2_0 : Int) (a2_1 : Int) (a2_2 : Int) : Option ((List (S25))) := (impl_joinLevel.f k a0 a1_0 a1_1 a1_2 a2_0 a2_1 a2_2).bind fun t570 => (impl_geodesic.l0 k a0 t570 (([] : List (S25))) a1_0 a1_0 a1_1 a1_2 a2_0 a2_1 a2_2)
theorem impl_geodesic.calls (k : Nat) (a0 : Int) (a1_0 : Int) (a1_1 : Int) (a1_2 : Int) (a2_0 : Int) (a2_1 : Int) (a2_2 : Int) (r : List (S25)) (w : World) (h : impl_geodesic.f k a0 a1_0 a1_1 a1_2 a2_0 a2_1 a2_2 = some r) :
  Calls Try.prog 115 #[.int .i64 a0, .agg #[.int .i64 a1_0, .int .i64 a1_1, .int .i64 a1_2], .agg #[.int .i64 a2_0, .int .i64 a2_1, .int .i64 a2_2]] w fun e w' => ∃ v0_ : Value, e = .returned (v0_) ∧ Kd.R k25 25 w' w.heap.size (fun _ => True) v0_ r ∧ Below w.heap.size w w' := by
 have hu25 := Try.underlying25
 have HB := Aside0.mk (Below.refl w.heap.size w)
 have H : ((impl_joinLevel.f k a0 a1_0 a1_1 a1_2 a2_0 a2_1 a2_2).bind fun t570 => (impl_geodesic.l0 k a0 t570 (([] : List (S25))) a1_0 a1_0 a1_1 a1_2 a2_0 a2_1 a2_2)) = some r := h
 clear h
 replace H := ob_ H
 obtain ⟨t570, A40, H⟩ := H
 have A4 := Aside0.mk A40
 clear A40
 obtain ⟨y571, hy571⟩ : ∃ y_ : List (S25), y_ = (([] : List (S25))) := ⟨_, rfl⟩
 replace H : (impl_geodesic.l0 k a0 t570 y571 a1_0 a1_0 a1_1 a1_2 a2_0 a2_1 a2_2) = some r := by first | (rw [hy571]; with_reducible exact H) | (have H2_ := (Option.bind_some _ _).symm.trans H; rw [hy571]; with_reducible exact H2_) | (have H2_ := (Option.bind_some _ _).symm.trans H; with_reducible exact H2_) | with_reducible exact H | (rw [hy571]; exact H) | exact H
 have Ny571 := Aside0.mk hy571
 clear hy571
 have H' := Aside0.mk H
 clear H
 go_enter Try.func115, Try.ntmps115
 go_wp2_with (first | ((refine gd_ 4 ?_); refine bx_ 4 #[.int .i64 a1_0, .int .i64 a1_1, .int .i64 a1_2] 25 ?_; intro gb568 hg w5 BK568 hb; have GW568 := bs_ HB hg; have GE568 := bs_ HB hg; replace HB := bt_ HB hb; clear hb hg) | ((refine gd_ 5 ?_); refine bx_ 5 #[.int .i64 a2_0, .int .i64 a2_1, .int .i64 a2_2] 25 ?_; intro gb569 hg w6 BK569 hb; have GW569 := bs_ HB hg; have GE569 := bs_ HB hg; have NB568_569 := bm_ BK568 hg; have NB569_568 := bn_ BK568 hg; replace BK568 := bb_ BK568 hb; replace HB := bt_ HB hb; clear hb hg; have hnb7 := NB568_569.out; have hnc7 := NB569_568.out; obtain ⟨hcz8_0, hcz8_1, hcz8_2, hfz8_0, hfz8_1, hfz8_2⟩ := ch3_ BK568; obtain ⟨hcz9_0, hcz9_1, hcz9_2, hfz9_0, hfz9_1, hfz9_2⟩ := ch3_ BK569) | ((refine gc_ 159 ?_); refine ge_ 14 Try.func159 #[.int .i64 a0, .agg #[.int .i64 a1_0, .int .i64 a1_1, .int .i64 a1_2], .agg #[.int .i64 a2_0, .int .i64 a2_1, .int .i64 a2_2]] ?_; (with_reducible refine (impl_joinLevel.calls k a0 a1_0 a1_1 a1_2 a2_0 a2_1 a2_2 t570 _ A4.out).mono ?_); rintro e w10 ⟨rfl, hb⟩; refine ⟨_, rfl, ?_⟩; replace BK568 := bb_ BK568 hb; replace BK569 := bb_ BK569 hb; replace HB := bt_ HB hb; (try clear hb)) | ((refine gd_ 15 ?_); refine Kd.R_lit k25 _ 25 ?hg (N := 15) ?hd (xs := ([] : List (S25))) (inner := []) (ok := fun _ => True) (okp := fun _ => True) ?hr ?hp (fun _ hk => hk) trivial (Below.refl _ _) (Nat.le_refl _) (by simp) ?_; (case hd => rfl); (case hg => rfl); (case hr => first | (go_simp; done) | (go_simp; rfl)); (case hp => exact (Reps.none _ _)); intro v572 w11 ho12 hb hg_ hnew_; clear hg_ hnew_; (first | rw [← Ny571.out] at ho12 | (simp only [Int.reduceToNat] at ho12; rw [← Ny571.out] at ho12)); have HO573 := Aside0.mk (Kd.R_lower (Kd.R_newB (Kd.R_newB ho12 (g := gb568) (o := .cells #[.int .i64 a1_0, .int .i64 a1_1, .int .i64 a1_2] 25 (0, 0)) (bl_ BK568).out) (g := gb569) (o := .cells #[.int .i64 a2_0, .int .i64 a2_1, .int .i64 a2_2] 25 (0, 0)) (bl_ BK569).out) (below_size (bw_ HB).out)); replace BK568 := bb_ BK568 hb; replace BK569 := bb_ BK569 hb; replace HB := bt_ HB hb; clear hb ho12; obtain ⟨hcz13_0, hcz13_1, hcz13_2, hfz13_0, hfz13_1, hfz13_2⟩ := ch3_ BK568))
 go_loopg [8, 9] k (fun kq v8 v9 w' => ∃ (x8_1 : List (S25)) (x9_1 : Int), v9 = .int .i64 x9_1 ∧ Aside0 (impl_geodesic.l0 kq a0 t570 x8_1 x9_1 a1_0 a1_1 a1_2 a2_0 a2_1 a2_2 = some r) ∧ Aside0 (kq ≤ k) ∧ Aside0 (Kd.R k25 25 w' w.heap.size (fun k_ => k_ ≠ gb568 ∧ k_ ≠ gb569) v8 x8_1) ∧ Aside0 (w'.heap[gb568]? = some (.cells #[.int .i64 a1_0, .int .i64 a1_1, .int .i64 a1_2] 25 (0, 0))) ∧ Aside0 (w'.heap[gb569]? = some (.cells #[.int .i64 a2_0, .int .i64 a2_1, .int .i64 a2_2] 25 (0, 0))) ∧ Aside0 (Below w.heap.size w w'))
 case atStart => exact ⟨(y571), (a1_0), en_, H', ⟨Nat.le_refl _⟩, ⟨by (with_reducible repeat (first | apply Kd.R_alloc | apply Kd.R_drewN | apply Kd.R_drew)); exact Kd.R_mono HO573.out (fun _ hk => ⟨hk.1.2, hk.2⟩)⟩, bl_ BK568, bl_ BK569, bw_ HB⟩
 case round =>
  clear H'
  try clear c1
  try clear p2
  try clear c7
  try clear c11
  try clear hcz13_0 hcz13_1 hcz13_2
  try clear hcz8_0 hcz8_1 hcz8_2
  try clear hcz9_0 hcz9_1 hcz9_2
  try clear hfz13_0 hfz13_1 hfz13_2
  try clear hfz8_0 hfz8_1 hfz8_2
  try clear hfz9_0 hfz9_1 hfz9_2
  obtain ⟨x8_1, x9_1, rfl, HA, HK1, HO_8, BK568, BK569, HB⟩ := hrel
  cases gk with
  | zero => exact absurd HA.out (by simp [impl_geodesic.l0])
  | succ k1 =>
   have H := HA.out
   clear HA
   simp only [impl_geodesic.l0] at H
   by_cases c14 : x9_1 ≥ t570
   ·rw [if_pos c14] at H
    have c14b0 : decide (t570 ≤ x9_1) = true := decide_eq_true c14
    clear c14
    replace H := ob_ H
    obtain ⟨⟨t574, t575, t576⟩, A150, H⟩ := H
    have A15 := Aside0.mk A150
    clear A150
    by_cases c16 : x8_1.length < 5864062014805
    ·rw [if_pos c16] at H
     have LMc16 := Aside0.mk c16
     clear c16
     obtain ⟨y577, hy577⟩ : ∃ y_ : List (S25), y_ = (x8_1 ++ [(⟨t574, t575, t576⟩ : S25)]) := ⟨_, rfl⟩
     replace H : (impl_geodesic.l0 k1 a0 t570 y577 (wrap64 (x9_1 - 1)) a1_0 a1_1 a1_2 a2_0 a2_1 a2_2) = some r := by first | (rw [hy577]; with_reducible exact H) | (have H2_ := (Option.bind_some _ _).symm.trans H; rw [hy577]; with_reducible exact H2_) | (have H2_ := (Option.bind_some _ _).symm.trans H; with_reducible exact H2_) | with_reducible exact H | (rw [hy577]; exact H) | exact H
     have Ny577 := Aside0.mk hy577
     clear hy577
     have H' := Aside0.mk H
     clear H
     have hnb17 := NB568_569.out
     have hnc17 := NB569_568.out
     obtain ⟨hcz18_0, hcz18_1, hcz18_2, hfz18_0, hfz18_1, hfz18_2⟩ := ch3_ BK568
     go_wp2_with (first | ((refine gc_ 168 ?_); refine ge_ 27 Try.func168 #[.int .i64 a0, .agg #[.int .i64 a1_0, .int .i64 a1_1, .int .i64 a1_2], .int .i64 x9_1] ?_; (with_reducible refine (impl_above.calls k1 a0 a1_0 a1_1 a1_2 x9_1 t574 t575 t576 _ A15.out).mono ?_); rintro e w19 ⟨rfl, hb⟩; refine ⟨_, rfl, ?_⟩; replace HO_8 := rb_ HO_8 hb; replace BK568 := bb_ BK568 hb; replace BK569 := bb_ BK569 hb; replace HB := bt_ HB hb; (try clear hb)) | ((with_reducible refine gate_builtin (b := .append) (xs := #[.tmp 23, .tmp 28]) rfl ?_); at_builtin; refine Kd.R_append k25 (w0 := w) w.heap.size rfl (.tmp 23) (.tmp 28) 95 25 (.agg #[(.int .i64 0), (.int .i64 0), (.int .i64 0)]) 24 rfl Try.underlying95 info25 rfl (by decide) (by omega) u8 x8_1 (⟨t574, t575, t576⟩ : S25) [.int .i64 t574, .int .i64 t575, .int .i64 t576] (fun k_ => k_ ≠ gb568 ∧ k_ ≠ gb569) (fun _ => False) rfl rfl ?aP (fun _ hk => hk.elim) ?aF ?aO ?aB ?aS ?aL ?_; (case aP => exact k25_mkM _ _ _ (⟨t574, t575, t576⟩ : S25)); (case aB => exact (bw_ HB).out); (case aF => exact (fun k_ hk => ⟨Kd.freshB (g := gb568) (o := .cells #[.int .i64 a1_0, .int .i64 a1_1, .int .i64 a1_2] 25 (0, 0)) (bl_ BK568).out k_ hk, Kd.freshB (g := gb569) (o := .cells #[.int .i64 a2_0, .int .i64 a2_1, .int .i64 a2_2] 25 (0, 0)) (bl_ BK569).out k_ hk⟩)); (case aO => exact (ra_ HO_8.out)); (case aS => exact (below_size (bw_ HB).out)); (case aL => have := LMc16.out; omega); intro v578 w20 ho hb hg hat; rw [← Ny577.out] at ho; have n0_ := Aside0.mk (blk_grown (g := gb568) (o := .cells #[.int .i64 a1_0, .int .i64 a1_1, .int .i64 a1_2] 25 (0, 0)) (bl_ BK568).out hg (Kd.R_away HO_8.out (fun _ hk => hk.1))); have n1_ := Aside0.mk (blk_grown (g := gb569) (o := .cells #[.int .i64 a2_0, .int .i64 a2_1, .int .i64 a2_2] 25 (0, 0)) (bl_ BK569).out hg (Kd.R_away HO_8.out (fun _ hk => hk.2))); have n2_ := Aside0.mk (hb); have n3_ := Aside0.mk (ho); clear BK568; clear BK569; clear HB; clear HO_8; have BK568 := n0_; have BK569 := n1_; have HB := n2_; have HO579 := n3_; clear n0_ n1_ n2_ n3_; clear ho hb hg hat))
     go_roundg k1
     case measure => have := HK1.out; omega
     case rel => exact ⟨(y577), (wrap64 (x9_1 - 1)), en_, H', ⟨by have := HK1.out; omega⟩, ⟨by (with_reducible repeat (first | apply Kd.R_alloc | apply Kd.R_drewN | apply Kd.R_drew)); exact HO579.out⟩, bl_ BK568, bl_ BK569, bw_ HB⟩
    ·rw [if_neg c16] at H
     exact absurd H (by simp)
   ·rw [if_neg c14] at H
    have c14b0 : decide (t570 ≤ x9_1) = false := decide_eq_false c14
    clear c14
    have H' := Aside0.mk H
    clear H
    go_wp2
    go_loopg [8, 10] k1 (fun kq v8 v10 w' => ∃ (x8_2 : List (S25)) (x10_2 : Int), v10 = .int .i64 x10_2 ∧ Aside0 (impl_geodesic.l1 kq a0 x8_2 x10_2 a2_0 a2_1 a2_2 = some r) ∧ Aside0 (kq ≤ k1) ∧ Aside0 (Kd.R k25 25 w' w.heap.size (fun k_ => k_ ≠ gb568 ∧ k_ ≠ gb569) v8 x8_2) ∧ Aside0 (w'.heap[gb568]? = some (.cells #[.int .i64 a1_0, .int .i64 a1_1, .int .i64 a1_2] 25 (0, 0))) ∧ Aside0 (w'.heap[gb569]? = some (.cells #[.int .i64 a2_0, .int .i64 a2_1, .int .i64 a2_2] 25 (0, 0))) ∧ Aside0 (Below w.heap.size w w'))
    case atStart => exact ⟨(x8_1), (wrap64 (t570 + 1)), en_, H', ⟨Nat.le_refl _⟩, ⟨by (with_reducible repeat (first | apply Kd.R_alloc | apply Kd.R_drewN | apply Kd.R_drew)); exact HO_8.out⟩, bl_ BK568, bl_ BK569, bw_ HB⟩
    case round =>
     clear H'
     try clear c1
     try clear p2
     try clear p6
     try clear c7
     try clear c11
     try clear c14
     try clear c14b0
     try clear c15
     try clear c16
     try clear c17
     try clear hcz13_0 hcz13_1 hcz13_2
     try clear hcz18_0 hcz18_1 hcz18_2
     try clear hcz8_0 hcz8_1 hcz8_2
     try clear hcz9_0 hcz9_1 hcz9_2
     try clear hfz13_0 hfz13_1 hfz13_2
     try clear hfz18_0 hfz18_1 hfz18_2
     try clear hfz8_0 hfz8_1 hfz8_2
     try clear hfz9_0 hfz9_1 hfz9_2
     try clear p2
     obtain ⟨x8_2, x10_2, rfl, HA, HK2, HO_8, BK568, BK569, HB⟩ := hrel
     cases gk with
     | zero => exact absurd HA.out (by simp [impl_geodesic.l1])
     | succ k2 =>
      have H := HA.out
      clear HA
      simp only [impl_geodesic.l1] at H
      by_cases c21 : x10_2 ≤ a2_0
      ·rw [if_pos c21] at H
       have c21b0 : decide (x10_2 ≤ a2_0) = true := decide_eq_true c21
       clear c21
       replace H := ob_ H
       obtain ⟨⟨t580, t581, t582⟩, A220, H⟩ := H
       have A22 := Aside0.mk A220
       clear A220
       by_cases c23 : x8_2.length < 5864062014805
       ·rw [if_pos c23] at H
        have LMc23 := Aside0.mk c23
        clear c23
        obtain ⟨y583, hy583⟩ : ∃ y_ : List (S25), y_ = (x8_2 ++ [(⟨t580, t581, t582⟩ : S25)]) := ⟨_, rfl⟩
        replace H : (impl_geodesic.l1 k2 a0 y583 (wrap64 (x10_2 + 1)) a2_0 a2_1 a2_2) = some r := by first | (rw [hy583]; with_reducible exact H) | (have H2_ := (Option.bind_some _ _).symm.trans H; rw [hy583]; with_reducible exact H2_) | (have H2_ := (Option.bind_some _ _).symm.trans H; with_reducible exact H2_) | with_reducible exact H | (rw [hy583]; exact H) | exact H
        have Ny583 := Aside0.mk hy583
        clear hy583
        have H' := Aside0.mk H
        clear H
        have hnb24 := NB569_568.out
        have hnc24 := NB568_569.out
        obtain ⟨hcz25_0, hcz25_1, hcz25_2, hfz25_0, hfz25_1, hfz25_2⟩ := ch3_ BK569
        go_wp2_with (first | ((refine gc_ 168 ?_); refine ge_ 42 Try.func168 #[.int .i64 a0, .agg #[.int .i64 a2_0, .int .i64 a2_1, .int .i64 a2_2], .int .i64 x10_2] ?_; (with_reducible refine (impl_above.calls k2 a0 a2_0 a2_1 a2_2 x10_2 t580 t581 t582 _ A22.out).mono ?_); rintro e w26 ⟨rfl, hb⟩; refine ⟨_, rfl, ?_⟩; replace HO_8 := rb_ HO_8 hb; replace BK568 := bb_ BK568 hb; replace BK569 := bb_ BK569 hb; replace HB := bt_ HB hb; (try clear hb)) | ((with_reducible refine gate_builtin (b := .append) (xs := #[.tmp 38, .tmp 43]) rfl ?_); at_builtin; refine Kd.R_append k25 (w0 := w) w.heap.size rfl (.tmp 38) (.tmp 43) 95 25 (.agg #[(.int .i64 0), (.int .i64 0), (.int .i64 0)]) 24 rfl Try.underlying95 info25 rfl (by decide) (by omega) u8 x8_2 (⟨t580, t581, t582⟩ : S25) [.int .i64 t580, .int .i64 t581, .int .i64 t582] (fun k_ => k_ ≠ gb568 ∧ k_ ≠ gb569) (fun _ => False) rfl rfl ?aP (fun _ hk => hk.elim) ?aF ?aO ?aB ?aS ?aL ?_; (case aP => exact k25_mkM _ _ _ (⟨t580, t581, t582⟩ : S25)); (case aB => exact (bw_ HB).out); (case aF => exact (fun k_ hk => ⟨Kd.freshB (g := gb568) (o := .cells #[.int .i64 a1_0, .int .i64 a1_1, .int .i64 a1_2] 25 (0, 0)) (bl_ BK568).out k_ hk, Kd.freshB (g := gb569) (o := .cells #[.int .i64 a2_0, .int .i64 a2_1, .int .i64 a2_2] 25 (0, 0)) (bl_ BK569).out k_ hk⟩)); (case aO => exact (ra_ HO_8.out)); (case aS => exact (below_size (bw_ HB).out)); (case aL => have := LMc23.out; omega); intro v584 w27 ho hb hg hat; rw [← Ny583.out] at ho; have n0_ := Aside0.mk (blk_grown (g := gb568) (o := .cells #[.int .i64 a1_0, .int .i64 a1_1, .int .i64 a1_2] 25 (0, 0)) (bl_ BK568).out hg (Kd.R_away HO_8.out (fun _ hk => hk.1))); have n1_ := Aside0.mk (blk_grown (g := gb569) (o := .cells #[.int .i64 a2_0, .int .i64 a2_1, .int .i64 a2_2] 25 (0, 0)) (bl_ BK569).out hg (Kd.R_away HO_8.out (fun _ hk => hk.2))); have n2_ := Aside0.mk (hb); have n3_ := Aside0.mk (ho); clear BK568; clear BK569; clear HB; clear HO_8; have BK568 := n0_; have BK569 := n1_; have HB := n2_; have HO585 := n3_; clear n0_ n1_ n2_ n3_; clear ho hb hg hat))
        go_roundg k2
        case measure => have := HK1.out; have := HK2.out; omega
        case rel => exact ⟨(y583), (wrap64 (x10_2 + 1)), en_, H', ⟨by have := HK1.out; have := HK2.out; omega⟩, ⟨by (with_reducible repeat (first | apply Kd.R_alloc | apply Kd.R_drewN | apply Kd.R_drew)); exact HO585.out⟩, bl_ BK568, bl_ BK569, bw_ HB⟩
       ·rw [if_neg c23] at H
        exact absurd H (by simp)
      ·rw [if_neg c21] at H
       have c21b0 : decide (x10_2 ≤ a2_0) = false := decide_eq_false c21
       clear c21
       obtain rfl := si_ H
       have hnb28 := NB569_568.out
       have hnc28 := NB568_569.out
       obtain ⟨hcz29_0, hcz29_1, hcz29_2, hfz29_0, hfz29_1, hfz29_2⟩ := ch3_ BK569
       go_wp2
       go_ret
       exact ⟨_, es_, by (with_reducible repeat (first | apply Kd.R_alloc | apply Kd.R_drewN | apply Kd.R_drew)); exact Kd.R_mono HO_8.out (fun _ hk => trivial), (bw_ HB).out⟩
/-! ### impl_wayWord: function 87 -/
def impl_wayWord.l0 : Nat → Int → List Int → List (S25) → Int → Option (ByteArray)
 | 0, _, _, _, _ => none
 | k + 1, x0, x7, x8, x9 => if x9 < (x8.length : Int) then (if 0 ≤ (wrap64 (x9 - 1)) then (if (wrap64 (x9 - 1)) < (x8.length : Int) then (if 0 ≤ x9 then ((impl_letterTo.f k x0 ((rd_T25 x8 (wrap64 (x9 - 1))).f0) ((rd_T25 x8 (wrap64 (x9 - 1))).f1) ((rd_T25 x8 (wrap64 (x9 - 1))).f2) ((rd_T25 x8 x9).f0) ((rd_T25 x8 x9).f1) ((rd_T25 x8 x9).f2)).bind fun t596 => (if x7.length < 140737488355328 then (impl_wayWord.l0 k x0 (x7 ++ [t596]) x8 (wrap64 (x9 + 1))) else (none))) else (none)) else (none)) else (none)) else (some (strOfNums x7))
def impl_wayWord.f (k : Nat) (a0 : Int) (a1_0 : Int) (a1_1 : Int) (a1_2 : Int) (a2_0 : Int) (a2_1 : Int) (a2_2 : Int) : Option (ByteArray) := (impl_geodesic.f k a0 a1_0 a1_1 a1_2 a2_0 a2_1 a2_2).bind fun t591 => (impl_wayWord.l0 k a0 (([] : List Int)) t591 1)
def impl_wayWord.T5 : Bool × List (List Nat × List Nat) := (true, [([], []), ([], []), ([], []), ([], []), ([3], [3]), ([2, 4], [2, 4]), ([5], [5]), ([], []), ([], []), ([7, 8], [7, 8]), ([9], [9]), ([1, 6, 10], [1, 6, 10]), ([11], [11]), ([0, 12, 11], [0, 12]), ([13, 13, 0, 1, 2, 3, 4, 5, 6, 7, 8, 9, 10, 11, 12, 13], [0, 13])])
def impl_wayWord.B5 : List Nat := [0, 0, 0, 0, 8, 28, 60, 0, 0, 384, 896, 2046, 4094, 8191, 16383]
theorem impl_wayWord.tab5 : rtab .any (opsOf Try.f87 5) = impl_wayWord.T5 := by kernel_rfl
theorem impl_wayWord.bits5 : waitsOk impl_wayWord.T5.2 impl_wayWord.B5 = true := by kernel_rfl
theorem impl_wayWord.calls (k : Nat) (a0 : Int) (a1_0 : Int) (a1_1 : Int) (a1_2 : Int) (a2_0 : Int) (a2_1 : Int) (a2_2 : Int) (r : ByteArray) (w : World) (h : impl_wayWord.f k a0 a1_0 a1_1 a1_2 a2_0 a2_1 a2_2 = some r) :
  Calls Try.prog 87 #[.int .i64 a0, .agg #[.int .i64 a1_0, .int .i64 a1_1, .int .i64 a1_2], .agg #[.int .i64 a2_0, .int .i64 a2_1, .int .i64 a2_2]] w fun e w' => e = .returned (.string r) ∧ Below w.heap.size w w' := by
 have hu25 := Try.underlying25
 have HB := Aside0.mk (Below.refl w.heap.size w)
 have H : ((impl_geodesic.f k a0 a1_0 a1_1 a1_2 a2_0 a2_1 a2_2).bind fun t591 => (impl_wayWord.l0 k a0 (([] : List Int)) t591 1)) = some r := h
 clear h
 obtain ⟨y588, hy588⟩ : ∃ y_ : List Int, y_ = (([] : List Int)) := ⟨_, rfl⟩
 replace H : ((impl_geodesic.f k a0 a1_0 a1_1 a1_2 a2_0 a2_1 a2_2).bind fun t591 => (impl_wayWord.l0 k a0 y588 t591 1)) = some r := by first | (rw [hy588]; with_reducible exact H) | (have H2_ := (Option.bind_some _ _).symm.trans H; rw [hy588]; with_reducible exact H2_) | (have H2_ := (Option.bind_some _ _).symm.trans H; with_reducible exact H2_) | with_reducible exact H | (rw [hy588]; exact H) | exact H
 have Ny588 := Aside0.mk hy588
 clear hy588
 replace H := ob_ H
 obtain ⟨t591, A40, H⟩ := H
 have A4 := Aside0.mk A40
 clear A40
 have H' := Aside0.mk H
 clear H
 go_enter Try.func87, Try.ntmps87
 go_wp2_with (first | ((refine gd_ 4 ?_); refine bx_ 4 #[.int .i64 a1_0, .int .i64 a1_1, .int .i64 a1_2] 25 ?_; intro gb586 hg w5 BK586 hb; have GW586 := bs_ HB hg; have GE586 := bs_ HB hg; replace HB := bt_ HB hb; clear hb hg) | ((refine gd_ 5 ?_); refine bx_ 5 #[.int .i64 a2_0, .int .i64 a2_1, .int .i64 a2_2] 25 ?_; intro gb587 hg w6 BK587 hb; have GW587 := bs_ HB hg; have GE587 := bs_ HB hg; have NB586_587 := bm_ BK586 hg; have NB587_586 := bn_ BK586 hg; replace BK586 := bb_ BK586 hb; replace HB := bt_ HB hb; clear hb hg) | ((refine gd_ 10 ?_); refine Kd.R_lit (Kd.int .u8) _ 5 ?hg (N := 10) ?hd (xs := ([] : List Int)) (inner := []) (ok := fun _ => True) (okp := fun _ => True) ?hr ?hp (fun _ hk => hk) trivial (Below.refl _ _) (Nat.le_refl _) (by simp) ?_; (case hd => rfl); (case hg => rfl); (case hr => first | (go_simp; done) | (go_simp; rfl)); (case hp => exact (Reps.none _ _)); intro v589 w7 ho8 hb hg_ hnew_; clear hg_ hnew_; (first | rw [← Ny588.out] at ho8 | (simp only [Int.reduceToNat] at ho8; rw [← Ny588.out] at ho8)); have HO590 := Aside0.mk (Kd.R_lower ho8 (below_size (bw_ HB).out)); replace BK586 := bb_ BK586 hb; replace BK587 := bb_ BK587 hb; replace HB := bt_ HB hb; clear hb ho8; have hnb9 := NB586_587.out; have hnc9 := NB587_586.out; obtain ⟨hcz10_0, hcz10_1, hcz10_2, hfz10_0, hfz10_1, hfz10_2⟩ := ch3_ BK586; obtain ⟨hcz11_0, hcz11_1, hcz11_2, hfz11_0, hfz11_1, hfz11_2⟩ := ch3_ BK587) | ((refine gc_ 115 ?_); refine ge_ 14 Try.func115 #[.int .i64 a0, .agg #[.int .i64 a1_0, .int .i64 a1_1, .int .i64 a1_2], .agg #[.int .i64 a2_0, .int .i64 a2_1, .int .i64 a2_2]] ?_; (with_reducible refine (impl_geodesic.calls k a0 a1_0 a1_1 a1_2 a2_0 a2_1 a2_2 t591 _ A4.out).mono ?_); rintro e w12 ⟨v592, rfl, ho0, hb⟩; refine ⟨_, rfl, ?_⟩; have HO593 := Aside0.mk (Kd.R_lower (Kd.R_newB (Kd.R_newB ho0 (g := gb586) (o := .cells #[.int .i64 a1_0, .int .i64 a1_1, .int .i64 a1_2] 25 (0, 0)) (bl_ BK586).out) (g := gb587) (o := .cells #[.int .i64 a2_0, .int .i64 a2_1, .int .i64 a2_2] 25 (0, 0)) (bl_ BK587).out) (below_size (bw_ HB).out)); replace HO590 := rb_ HO590 hb; replace BK586 := bb_ BK586 hb; replace BK587 := bb_ BK587 hb; replace HB := bt_ HB hb; (try clear hb); (try clear ho0)))
 go_loopg [7, 9] k (fun kq v7 v9 w' => ∃ (x7_1 : List Int) (x9_1 : Int), v9 = .int .i64 x9_1 ∧ Aside0 (impl_wayWord.l0 kq a0 x7_1 t591 x9_1 = some r) ∧ Aside0 (kq ≤ k) ∧ Aside0 (Kd.R (Kd.int .u8) 5 w' w.heap.size (fun _ => True) v7 x7_1) ∧ Aside0 (Kd.R k25 25 w' w.heap.size (fun k_ => k_ ≠ gb586 ∧ k_ ≠ gb587) v592 t591) ∧ Aside0 (w'.heap[gb586]? = some (.cells #[.int .i64 a1_0, .int .i64 a1_1, .int .i64 a1_2] 25 (0, 0))) ∧ Aside0 (w'.heap[gb587]? = some (.cells #[.int .i64 a2_0, .int .i64 a2_1, .int .i64 a2_2] 25 (0, 0))) ∧ Aside0 (Below w.heap.size w w'))
 case atStart => exact ⟨(y588), (1), en_, H', ⟨Nat.le_refl _⟩, ⟨by (with_reducible repeat (first | apply Kd.R_alloc | apply Kd.R_drewN | apply Kd.R_drew)); exact HO590.out⟩, ⟨by (with_reducible repeat (first | apply Kd.R_alloc | apply Kd.R_drewN | apply Kd.R_drew)); exact Kd.R_mono HO593.out (fun _ hk => ⟨hk.1.2, hk.2⟩)⟩, bl_ BK586, bl_ BK587, bw_ HB⟩
 case round =>
  clear H'
  try clear c1
  try clear p2
  try clear c8
  try clear c9
  try clear c11
  try clear hcz10_0 hcz10_1 hcz10_2
  try clear hcz11_0 hcz11_1 hcz11_2
  try clear hfz10_0 hfz10_1 hfz10_2
  try clear hfz11_0 hfz11_1 hfz11_2
  obtain ⟨x7_1, x9_1, rfl, HA, HK1, HO_7, HO_8, BK586, BK587, HB⟩ := hrel
  cases gk with
  | zero => exact absurd HA.out (by simp [impl_wayWord.l0])
  | succ k1 =>
   have H := HA.out
   clear HA
   simp only [impl_wayWord.l0] at H
   by_cases c13 : x9_1 < (t591.length : Int)
   ·rw [if_pos c13] at H
    have c13b0 : decide (x9_1 < (t591.length : Int)) = true := decide_eq_true c13
    clear c13
    obtain ⟨ji14, hji14⟩ : ∃ j_ : Int, (wrap64 (x9_1 - 1)) = j_ := ⟨_, rfl⟩
    replace H : (if 0 ≤ (ji14) then (if (ji14) < (t591.length : Int) then (if 0 ≤ x9_1 then ((impl_letterTo.f k1 a0 ((rd_T25 t591 (ji14)).f0) ((rd_T25 t591 (ji14)).f1) ((rd_T25 t591 (ji14)).f2) ((rd_T25 t591 x9_1).f0) ((rd_T25 t591 x9_1).f1) ((rd_T25 t591 x9_1).f2)).bind fun t596 => (if x7_1.length < 140737488355328 then (impl_wayWord.l0 k1 a0 (x7_1 ++ [t596]) t591 (wrap64 (x9_1 + 1))) else (none))) else (none)) else (none)) else (none)) = some r := by first | (rw [hji14] at H; exact H) | (simp only [hji14] at H ⊢; exact H)
    have hji14w : (IntKind.i64.wrap (x9_1 - 1)) = ji14 := (i64_w _).trans hji14
    by_cases c15 : 0 ≤ (ji14)
    ·rw [if_pos c15] at H
     have c15b0 : decide (0 ≤ (ji14)) = true := decide_eq_true c15
     clear c15
     by_cases c16 : (ji14) < (t591.length : Int)
     ·rw [if_pos c16] at H
      have c16b0 : decide ((ji14) < (t591.length : Int)) = true := decide_eq_true c16
      clear c16
      by_cases c17 : 0 ≤ x9_1
      ·rw [if_pos c17] at H
       have c17b0 : decide (0 ≤ x9_1) = true := decide_eq_true c17
       clear c17
       replace H := ob_ H
       obtain ⟨t596, A180, H⟩ := H
       have A18 := Aside0.mk A180
       clear A180
       by_cases c19 : x7_1.length < 140737488355328
       ·rw [if_pos c19] at H
        have LMc19 := Aside0.mk c19
        clear c19
        obtain ⟨y597, hy597⟩ : ∃ y_ : List Int, y_ = (x7_1 ++ [t596]) := ⟨_, rfl⟩
        replace H : (impl_wayWord.l0 k1 a0 y597 t591 (wrap64 (x9_1 + 1))) = some r := by first | (rw [hy597]; with_reducible exact H) | (have H2_ := (Option.bind_some _ _).symm.trans H; rw [hy597]; with_reducible exact H2_) | (have H2_ := (Option.bind_some _ _).symm.trans H; with_reducible exact H2_) | with_reducible exact H | (rw [hy597]; exact H) | exact H
        have Ny597 := Aside0.mk hy597
        clear hy597
        have H' := Aside0.mk H
        clear H
        obtain ⟨Ao20, co20, eo20⟩ := Kd.R_slice HO_8.out
        subst eo20
        try go_wp2
        replace HO_7 := Aside0.mk (Kd.R_drew HO_7.out)
        replace HO_8 := Aside0.mk (Kd.R_drew HO_8.out)
        replace BK586 := Aside0.mk (blk_drew BK586.out)
        replace BK587 := Aside0.mk (blk_drew BK587.out)
        replace HB := Aside0.mk (below_drew1 HB.out)
        have p594 : 0 ≤ ((ji14) : Int) := od_
        have q594 : (ji14) < (t591.length : Int) := od_
        obtain ⟨ad594, e594, hx594_0, hx594_1, hx594_2⟩ := at_T25 (Kd.R_reads' HO_8.out).2.2 (ji14) p594 q594
        cases e594
        replace p594 := eq_true p594
        replace q594 := eq_true q594
        have p595 : 0 ≤ (x9_1 : Int) := od_
        have q595 : x9_1 < (t591.length : Int) := od_
        obtain ⟨ad595, e595, hx595_0, hx595_1, hx595_2⟩ := at_T25 (Kd.R_reads' HO_8.out).2.2 x9_1 p595 q595
        obtain rfl : ad594 = ad595 := (by injection e595)
        replace p595 := eq_true p595
        replace q595 := eq_true q595
        refine start_ (n := 15) (S := fun w' => w'.cell? (ad594.add (((ji14)).toNat * 3)) = some (.int .i64 ((rd_T25 t591 (ji14)).f0)) ∧ w'.cell? ⟨(ad594.add (((ji14)).toNat * 3)).block, (ad594.add (((ji14)).toNat * 3)).off + 1, none⟩ = some (.int .i64 ((rd_T25 t591 (ji14)).f1)) ∧ w'.cell? ⟨(ad594.add (((ji14)).toNat * 3)).block, (ad594.add (((ji14)).toNat * 3)).off + 2, none⟩ = some (.int .i64 ((rd_T25 t591 (ji14)).f2)) ∧ w'.cell? (ad594.add ((x9_1).toNat * 3)) = some (.int .i64 ((rd_T25 t591 x9_1).f0)) ∧ w'.cell? ⟨(ad594.add ((x9_1).toNat * 3)).block, (ad594.add ((x9_1).toNat * 3)).off + 1, none⟩ = some (.int .i64 ((rd_T25 t591 x9_1).f1)) ∧ w'.cell? ⟨(ad594.add ((x9_1).toNat * 3)).block, (ad594.add ((x9_1).toNat * 3)).off + 2, none⟩ = some (.int .i64 ((rd_T25 t591 x9_1).f2))) (ds := [12, 13]) (bv_ 15 0) (by kernel_rfl) rfl rfl ⟨hx594_0, hx594_1, hx594_2, hx595_0, hx595_1, hx595_2⟩ (fun hHeld => ?_); refine with_tabW impl_wayWord.tab5 impl_wayWord.bits5 (fun HT_ HW_ => ?_)
        generalize wr.drew = w21 at HO_7 HO_8 BK586 BK587 HB hx594_0 hx594_1 hx594_2 hx595_0 hx595_1 hx595_2 hHeld ⊢
        refine px_ HT_ 0 21 1 ?_
        refine px_ HT_ 1 22 3 ?_
        refine px_ HT_ 2 23 7 ?_
        refine px_ HT_ 3 24 15 ?_
        refine px_ HT_ 4 25 31 ?_
        refine px_ HT_ 5 26 63 ?_
        refine px_ HT_ 7 28 191 ?_
        refine px_ HT_ 8 29 447 ?_
        refine px_ HT_ 9 30 959 ?_
        refine ta_ HT_ HW_ 6 (some 27) (bv_ 15 1023) hHeld ?_ (hy := by rintro w' ⟨s0, s1, s2, s3, s4, s5⟩; go_simp; with_reducible rfl)
        refine ta_ HT_ HW_ 10 (some 31) (bv_ 15 2047) hHeld ?_ (hy := by rintro w' ⟨s0, s1, s2, s3, s4, s5⟩; go_simp; with_reducible rfl)
        refine on_ HT_ 11 (some 32) (bv_ 15 4095) (fun K hK => ?_)
        refine gs_ Try.func82 #[.int .i64 a0, .agg #[.int .i64 ((rd_T25 t591 (ji14)).f0), .int .i64 ((rd_T25 t591 (ji14)).f1), .int .i64 ((rd_T25 t591 (ji14)).f2)], .agg #[.int .i64 ((rd_T25 t591 x9_1).f0), .int .i64 ((rd_T25 t591 x9_1).f1), .int .i64 ((rd_T25 t591 x9_1).f2)]] ?_ (hargs := by (try simp only [List.map_toArray, List.map_cons, List.map_nil]); first | done | (simp only [hji14]; rfl) | rfl | (simp only [List.length_drop, List.length_take]; rfl))
        with_reducible refine (impl_letterTo.calls k1 a0 ((rd_T25 t591 (ji14)).f0) ((rd_T25 t591 (ji14)).f1) ((rd_T25 t591 (ji14)).f2) ((rd_T25 t591 x9_1).f0) ((rd_T25 t591 x9_1).f1) ((rd_T25 t591 x9_1).f2) t596 _ A18.out).mono ?_
        rintro e w22 ⟨rfl, hb⟩
        have HS0_ := (hb.cell (World.block_lt_of_cell? _ _ (hHeld.1))).trans (hHeld.1)
        have HS1_ := (hb.cell (World.block_lt_of_cell? _ _ (hHeld.2.1))).trans (hHeld.2.1)
        have HS2_ := (hb.cell (World.block_lt_of_cell? _ _ (hHeld.2.2.1))).trans (hHeld.2.2.1)
        have HS3_ := (hb.cell (World.block_lt_of_cell? _ _ (hHeld.2.2.2.1))).trans (hHeld.2.2.2.1)
        have HS4_ := (hb.cell (World.block_lt_of_cell? _ _ (hHeld.2.2.2.2.1))).trans (hHeld.2.2.2.2.1)
        have HS5_ := (hb.cell (World.block_lt_of_cell? _ _ (hHeld.2.2.2.2.2))).trans (hHeld.2.2.2.2.2)
        refine ⟨_, rfl, ?_⟩
        replace HO_7 := rb_ HO_7 hb
        replace HO_8 := rb_ HO_8 hb
        replace BK586 := bb_ BK586 hb
        replace BK587 := bb_ BK587 hb
        replace HB := bt_ HB hb
        (try clear hb)
        (try clear hb2)
        (try clear hk)
        (try clear hi)
        refine hK.out _ _ ⟨HS0_, HS1_, HS2_, HS3_, HS4_, HS5_⟩ (fun hHeld => ?_)
        clear hK K
        refine nm_ (some 32) ?_
        refine last_ (i := 12) (N := some 33) (bv_ 15 8191) rfl rfl (one_of HT_.out (by kernel_rfl)) (by decide) (fun K hK => ?_)
        refine value_ (w1 := ?_) (v := ?_) (by rfl) rfl ?_ ?_
        rotate_left 2
        ·go_simp
         constructor
         ·rfl
         ·rfl
        refine hK.out _ _ ?_
        clear hK K
        refine nm_ (some 33) ?_
        refine last_ (i := 13) (N := some 34) (bv_ 15 16383) rfl rfl (one_of HT_.out (by kernel_rfl)) (by decide) (fun K hK => ?_)
        refine Kd.R_append_step (Kd.int .u8) (w0 := w) w.heap.size (by rfl) (.tmp 21) (.tmp 33) 22 5 (.int .u8 0) 1 rfl Try.underlying22 info5 rfl (by decide) (by omega) u7 x7_1 t596 [.int .u8 t596] (fun _ => True) (fun _ => False) rfl rfl ?aP (fun _ hk => hk.elim) ?aF ?aO ?aB ?aS ?aL ?_
        (case aP => exact rfl)
        (case aB => exact (bw_ HB).out)
        (case aF => exact (fun _ _ => trivial))
        (case aO => exact (ra_ HO_7.out))
        (case aS => exact (below_size (bw_ HB).out))
        (case aL => have := LMc19.out; omega)
        intro v598 w23 ho hb hg hat
        rw [← Ny597.out] at ho
        have n0_ := Aside0.mk (Kd.R_over' (ra_ HO_8.out) (Kd.R_typed (ra_ HO_7.out)) (by decide) hg)
        have n1_ := Aside0.mk (blk_grown (g := gb586) (o := .cells #[.int .i64 a1_0, .int .i64 a1_1, .int .i64 a1_2] 25 (0, 0)) (bl_ BK586).out hg (Kd.R_ne HO_7.out BK586.out (by decide)))
        have n2_ := Aside0.mk (blk_grown (g := gb587) (o := .cells #[.int .i64 a2_0, .int .i64 a2_1, .int .i64 a2_2] 25 (0, 0)) (bl_ BK587).out hg (Kd.R_ne HO_7.out BK587.out (by decide)))
        have n3_ := Aside0.mk (hb)
        have n4_ := Aside0.mk (ho)
        clear HO_8
        clear BK586
        clear BK587
        clear HB
        clear HO_7
        have HO_8 := n0_
        have BK586 := n1_
        have BK587 := n2_
        have HB := n3_
        have HO599 := n4_
        clear n0_ n1_ n2_ n3_ n4_
        clear ho hb hg hat
        refine hK.out _ _ ?_
        clear hK K
        refine nm_ (some 34) ?_
        refine px_ HT_ 14 7 32767 ?_
        refine done_ (done_of HT_.out (by kernel_rfl)) ?_
        try go_wp2
        go_roundg k1
        case measure => have := HK1.out; omega
        case rel => exact ⟨(y597), (wrap64 (x9_1 + 1)), en_, H', ⟨by have := HK1.out; omega⟩, ⟨by (with_reducible repeat (first | apply Kd.R_alloc | apply Kd.R_drewN | apply Kd.R_drew)); exact HO599.out⟩, ⟨by (with_reducible repeat (first | apply Kd.R_alloc | apply Kd.R_drewN | apply Kd.R_drew)); exact HO_8.out⟩, bl_ BK586, bl_ BK587, bw_ HB⟩
       ·rw [if_neg c19] at H
        exact absurd H (by simp)
      ·rw [if_neg c17] at H
       exact absurd H (by simp)
     ·rw [if_neg c16] at H
      exact absurd H (by simp)
    ·rw [if_neg c15] at H
     exact absurd H (by simp)
   ·rw [if_neg c13] at H
    have c13b0 : decide (x9_1 < (t591.length : Int)) = false := decide_eq_false c13
    clear c13
    obtain rfl := si_ H
    obtain ⟨Ao24, co24, eo24⟩ := Kd.R_slice HO_8.out
    subst eo24
    have hcv25 := own_string (P := Try.prog) Try.underlying22 Try.underlying5 Try.underlying9 (Kd.own_of_R HO_7.out)
    go_wp2
    go_ret
    exact ⟨es_, (bw_ HB).out⟩
/-! ### impl_WayWord: function 17 -/
def impl_WayWord.f (k : Nat) (a0 : Int) (a1_0 : Int) (a1_1 : Int) (a1_2 : Int) (a2_0 : Int) (a2_1 : Int) (a2_2 : Int) : Option (ByteArray × Int) := (impl_areBalls.f k a0 (([(⟨a1_0, a1_1, a1_2⟩ : S25), (⟨a2_0, a2_1, a2_2⟩ : S25)] : List (S25)))).bind fun t605 => (if t605 = true then ((impl_wayWord.f k a0 a1_0 a1_1 a1_2 a2_0 a2_1 a2_2).bind fun t606 => (some (t606, 0))) else (some ((⟨#[]⟩ : ByteArray), 1)))
theorem impl_WayWord.calls (k : Nat) (a0 : Int) (a1_0 : Int) (a1_1 : Int) (a1_2 : Int) (a2_0 : Int) (a2_1 : Int) (a2_2 : Int) (r1 : ByteArray) (r2 : Int) (w : World) (h : impl_WayWord.f k a0 a1_0 a1_1 a1_2 a2_0 a2_1 a2_2 = some (r1, r2)) :
  Calls Try.prog 17 #[.int .i64 a0, .agg #[.int .i64 a1_0, .int .i64 a1_1, .int .i64 a1_2], .agg #[.int .i64 a2_0, .int .i64 a2_1, .int .i64 a2_2]] w fun e w' => e = .returned (.tuple #[.string r1, .int .i64 r2]) ∧ Below w.heap.size w w' := by
 have hu25 := Try.underlying25
 have HB := Aside0.mk (Below.refl w.heap.size w)
 have H : ((impl_areBalls.f k a0 (([(⟨a1_0, a1_1, a1_2⟩ : S25), (⟨a2_0, a2_1, a2_2⟩ : S25)] : List (S25)))).bind fun t605 => (if t605 = true then ((impl_wayWord.f k a0 a1_0 a1_1 a1_2 a2_0 a2_1 a2_2).bind fun t606 => (some (t606, 0))) else (some ((⟨#[]⟩ : ByteArray), 1)))) = some (r1, r2) := h
 clear h
 obtain ⟨y602, hy602⟩ : ∃ y_ : List (S25), y_ = (([(⟨a1_0, a1_1, a1_2⟩ : S25), (⟨a2_0, a2_1, a2_2⟩ : S25)] : List (S25))) := ⟨_, rfl⟩
 replace H : ((impl_areBalls.f k a0 y602).bind fun t605 => (if t605 = true then ((impl_wayWord.f k a0 a1_0 a1_1 a1_2 a2_0 a2_1 a2_2).bind fun t606 => (some (t606, 0))) else (some ((⟨#[]⟩ : ByteArray), 1)))) = some (r1, r2) := by first | (rw [hy602]; with_reducible exact H) | (have H2_ := (Option.bind_some _ _).symm.trans H; rw [hy602]; with_reducible exact H2_) | (have H2_ := (Option.bind_some _ _).symm.trans H; with_reducible exact H2_) | with_reducible exact H | (rw [hy602]; exact H) | exact H
 have Ny602 := Aside0.mk hy602
 clear hy602
 replace H := ob_ H
 obtain ⟨t605, A40, H⟩ := H
 have A4 := Aside0.mk A40
 clear A40
 by_cases c5 : t605 = true
 ·subst c5
  have H1 : ((impl_wayWord.f k a0 a1_0 a1_1 a1_2 a2_0 a2_1 a2_2).bind fun t606 => (some (t606, 0))) = some (r1, r2) := by rw [if_pos rfl] at H; exact H
  clear H
  have H := H1
  clear H1
  replace H := ob_ H
  obtain ⟨t606, A60, H⟩ := H
  have A6 := Aside0.mk A60
  clear A60
  simp only [Option.some.injEq, Prod.mk.injEq] at H
  obtain ⟨rfl, rfl⟩ := H
  go_enter Try.func17, Try.ntmps17
  go_wp2_with (first | ((refine gd_ 4 ?_); refine bx_ 4 #[.int .i64 a1_0, .int .i64 a1_1, .int .i64 a1_2] 25 ?_; intro gb600 hg w7 BK600 hb; have GW600 := bs_ HB hg; have GE600 := bs_ HB hg; replace HB := bt_ HB hb; clear hb hg) | ((refine gd_ 5 ?_); refine bx_ 5 #[.int .i64 a2_0, .int .i64 a2_1, .int .i64 a2_2] 25 ?_; intro gb601 hg w8 BK601 hb; have GW601 := bs_ HB hg; have GE601 := bs_ HB hg; have NB600_601 := bm_ BK600 hg; have NB601_600 := bn_ BK600 hg; replace BK600 := bb_ BK600 hb; replace HB := bt_ HB hb; clear hb hg; have hnb9 := NB600_601.out; have hnc9 := NB601_600.out; obtain ⟨hcz10_0, hcz10_1, hcz10_2, hfz10_0, hfz10_1, hfz10_2⟩ := ch3_ BK600; obtain ⟨hcz11_0, hcz11_1, hcz11_2, hfz11_0, hfz11_1, hfz11_2⟩ := ch3_ BK601) | ((refine gd_ 11 ?_); refine Kd.R_lit k25 _ 25 ?hg (N := 11) ?hd (xs := ([(⟨a1_0, a1_1, a1_2⟩ : S25), (⟨a2_0, a2_1, a2_2⟩ : S25)] : List (S25))) (inner := [.int .i64 a1_0, .int .i64 a1_1, .int .i64 a1_2, .int .i64 a2_0, .int .i64 a2_1, .int .i64 a2_2]) (ok := fun _ => True) (okp := fun _ => True) ?hr ?hp (fun _ hk => hk) trivial (Below.refl _ _) (Nat.le_refl _) (by simp) ?_; (case hd => rfl); (case hg => rfl); (case hr => first | (go_simp; done) | (go_simp; rfl)); (case hp => exact (Reps.c3 (show Kd.M k25 _ _ _ (⟨a1_0, a1_1, a1_2⟩ : S25) [.int .i64 a1_0, .int .i64 a1_1, .int .i64 a1_2] from (k25_mkM _ _ _ (⟨a1_0, a1_1, a1_2⟩ : S25) )) (Reps.c3 (show Kd.M k25 _ _ _ (⟨a2_0, a2_1, a2_2⟩ : S25) [.int .i64 a2_0, .int .i64 a2_1, .int .i64 a2_2] from (k25_mkM _ _ _ (⟨a2_0, a2_1, a2_2⟩ : S25) )) (Reps.none _ _)))); intro v603 w12 ho13 hb hg_ hnew_; clear hg_ hnew_; (first | rw [← Ny602.out] at ho13 | (simp only [Int.reduceToNat] at ho13; rw [← Ny602.out] at ho13)); have HO604 := Aside0.mk (Kd.R_lower (Kd.R_newB (Kd.R_newB ho13 (g := gb600) (o := .cells #[.int .i64 a1_0, .int .i64 a1_1, .int .i64 a1_2] 25 (0, 0)) (bl_ BK600).out) (g := gb601) (o := .cells #[.int .i64 a2_0, .int .i64 a2_1, .int .i64 a2_2] 25 (0, 0)) (bl_ BK601).out) (below_size (bw_ HB).out)); replace BK600 := bb_ BK600 hb; replace BK601 := bb_ BK601 hb; replace HB := bt_ HB hb; clear hb ho13; obtain ⟨Ao14, co14, eo14⟩ := Kd.R_slice HO604.out; subst eo14) | ((refine gc_ 86 ?_); refine ge_ 12 Try.func86 #[.int .i64 a0, .slice Ao14 y602.length co14] ?_; (with_reducible refine (impl_areBalls.calls k a0 _ _ y602 true _ ?side1 ?side2 A4.out).mono ?_); (case side1 => exact ca_ (Kd.R_reads' HO604.out).2.2); (case side2 => exact (Kd.R_reads' HO604.out).2.1); rintro e w15 ⟨rfl, hb⟩; refine ⟨_, rfl, ?_⟩; replace HO604 := rb_ HO604 hb; replace BK600 := bb_ BK600 hb; replace BK601 := bb_ BK601 hb; replace HB := bt_ HB hb; (try clear hb); obtain ⟨hcz16_0, hcz16_1, hcz16_2, hfz16_0, hfz16_1, hfz16_2⟩ := ch3_ BK600; obtain ⟨hcz17_0, hcz17_1, hcz17_2, hfz17_0, hfz17_1, hfz17_2⟩ := ch3_ BK601) | ((refine gc_ 87 ?_); refine ge_ 17 Try.func87 #[.int .i64 a0, .agg #[.int .i64 a1_0, .int .i64 a1_1, .int .i64 a1_2], .agg #[.int .i64 a2_0, .int .i64 a2_1, .int .i64 a2_2]] ?_; (with_reducible refine (impl_wayWord.calls k a0 a1_0 a1_1 a1_2 a2_0 a2_1 a2_2 t606 _ A6.out).mono ?_); rintro e w18 ⟨rfl, hb⟩; refine ⟨_, rfl, ?_⟩; replace HO604 := rb_ HO604 hb; replace BK600 := bb_ BK600 hb; replace BK601 := bb_ BK601 hb; replace HB := bt_ HB hb; (try clear hb)))
  go_ret2
  exact ⟨es_, (bw_ HB).out⟩
 ·replace c5 := Bool.eq_false_iff.mpr c5
  subst c5
  have H1 : (some ((⟨#[]⟩ : ByteArray), 1)) = some (r1, r2) := by rw [if_neg (show ¬ (false = true) by decide)] at H; exact H
  clear H
  have H := H1
  clear H1
  simp only [Option.some.injEq, Prod.mk.injEq] at H
  obtain ⟨rfl, rfl⟩ := H
  go_enter Try.func17, Try.ntmps17
  go_wp2_with (first | ((refine gd_ 4 ?_); refine bx_ 4 #[.int .i64 a1_0, .int .i64 a1_1, .int .i64 a1_2] 25 ?_; intro gb600 hg w19 BK600 hb; have GW600 := bs_ HB hg; have GE600 := bs_ HB hg; replace HB := bt_ HB hb; clear hb hg) | ((refine gd_ 5 ?_); refine bx_ 5 #[.int .i64 a2_0, .int .i64 a2_1, .int .i64 a2_2] 25 ?_; intro gb601 hg w20 BK601 hb; have GW601 := bs_ HB hg; have GE601 := bs_ HB hg; have NB600_601 := bm_ BK600 hg; have NB601_600 := bn_ BK600 hg; replace BK600 := bb_ BK600 hb; replace HB := bt_ HB hb; clear hb hg; have hnb21 := NB600_601.out; have hnc21 := NB601_600.out; obtain ⟨hcz22_0, hcz22_1, hcz22_2, hfz22_0, hfz22_1, hfz22_2⟩ := ch3_ BK600; obtain ⟨hcz23_0, hcz23_1, hcz23_2, hfz23_0, hfz23_1, hfz23_2⟩ := ch3_ BK601) | ((refine gd_ 11 ?_); refine Kd.R_lit k25 _ 25 ?hg (N := 11) ?hd (xs := ([(⟨a1_0, a1_1, a1_2⟩ : S25), (⟨a2_0, a2_1, a2_2⟩ : S25)] : List (S25))) (inner := [.int .i64 a1_0, .int .i64 a1_1, .int .i64 a1_2, .int .i64 a2_0, .int .i64 a2_1, .int .i64 a2_2]) (ok := fun _ => True) (okp := fun _ => True) ?hr ?hp (fun _ hk => hk) trivial (Below.refl _ _) (Nat.le_refl _) (by simp) ?_; (case hd => rfl); (case hg => rfl); (case hr => first | (go_simp; done) | (go_simp; rfl)); (case hp => exact (Reps.c3 (show Kd.M k25 _ _ _ (⟨a1_0, a1_1, a1_2⟩ : S25) [.int .i64 a1_0, .int .i64 a1_1, .int .i64 a1_2] from (k25_mkM _ _ _ (⟨a1_0, a1_1, a1_2⟩ : S25) )) (Reps.c3 (show Kd.M k25 _ _ _ (⟨a2_0, a2_1, a2_2⟩ : S25) [.int .i64 a2_0, .int .i64 a2_1, .int .i64 a2_2] from (k25_mkM _ _ _ (⟨a2_0, a2_1, a2_2⟩ : S25) )) (Reps.none _ _)))); intro v603 w24 ho25 hb hg_ hnew_; clear hg_ hnew_; (first | rw [← Ny602.out] at ho25 | (simp only [Int.reduceToNat] at ho25; rw [← Ny602.out] at ho25)); have HO604 := Aside0.mk (Kd.R_lower (Kd.R_newB (Kd.R_newB ho25 (g := gb600) (o := .cells #[.int .i64 a1_0, .int .i64 a1_1, .int .i64 a1_2] 25 (0, 0)) (bl_ BK600).out) (g := gb601) (o := .cells #[.int .i64 a2_0, .int .i64 a2_1, .int .i64 a2_2] 25 (0, 0)) (bl_ BK601).out) (below_size (bw_ HB).out)); replace BK600 := bb_ BK600 hb; replace BK601 := bb_ BK601 hb; replace HB := bt_ HB hb; clear hb ho25; obtain ⟨Ao26, co26, eo26⟩ := Kd.R_slice HO604.out; subst eo26) | ((refine gc_ 86 ?_); refine ge_ 12 Try.func86 #[.int .i64 a0, .slice Ao26 y602.length co26] ?_; (with_reducible refine (impl_areBalls.calls k a0 _ _ y602 false _ ?side1 ?side2 A4.out).mono ?_); (case side1 => exact ca_ (Kd.R_reads' HO604.out).2.2); (case side2 => exact (Kd.R_reads' HO604.out).2.1); rintro e w27 ⟨rfl, hb⟩; refine ⟨_, rfl, ?_⟩; replace HO604 := rb_ HO604 hb; replace BK600 := bb_ BK600 hb; replace BK601 := bb_ BK601 hb; replace HB := bt_ HB hb; (try clear hb)))
  go_ret2
  exact ⟨es_, (bw_ HB).out⟩
end Go.Proofs.Ytgoeelhiffbjlaa.QR
