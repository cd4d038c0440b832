-- Written by a program of this session out of Lean's own print of the loaded program; Lean checks it.
import Derived.Test.YtojpcbbmbnmchaaQCx4
import Derived.Test.YtojpcbbmbnmchaaQCx65
import Derived.Test.YtojpcbbmbnmchaaQCx38
import Derived.Test.YtojpcbbmbnmchaaQCx45
namespace Go.Proofs.Ytojpcbbmbnmchaa.QC
open Go.RowKit Go.Proofs.YtojpcbbmbnmchaaW.PrintWords Go.Proofs.YtojpcbbmbnmchaaW.PrintLast Go.Proofs.YtojpcbbmbnmchaaW.PrintMore
attribute [local go_sem] isSome_setCell max2_int min2_int max_two min_two max_three min_three max_four min_four   -- for this text's walks alone
set_option linter.unusedVariables false
set_option linter.unusedSimpArgs false

/-! ### impl_geodesic: function 90 -/
mutual
def impl_geodesic.l0 : Nat → Int → Int → List (S28) → Int → Int → Int → Int → Int → Int → Int → Option ((List (S28)))
 | 0, _, _, _, _, _, _, _, _, _, _ => none
 | k + 1, x0, x7, x8, x9, x489000, x489001, x489002, x490000, x490001, x490002 => if x9 ≥ x7 then ((impl_above.f k x0 x489000 x489001 x489002 x9).bind fun bt494 => (if x8.length < 5864062014805 then (impl_geodesic.l0 k x0 x7 (x8 ++ [(⟨bt494.1, bt494.2.1, bt494.2.2⟩ : S28)]) (wrap64 (x9 - 1)) x489000 x489001 x489002 x490000 x490001 x490002) else (none))) else (impl_geodesic.l1 k x0 x8 (wrap64 (x7 + 1)) x490000 x490001 x490002)
def impl_geodesic.l1 : Nat → Int → List (S28) → Int → Int → Int → Int → Option ((List (S28)))
 | 0, _, _, _, _, _, _ => none
 | k + 1, x0, x8, x10, x490000, x490001, x490002 => if x10 ≤ x490000 then ((impl_above.f k x0 x490000 x490001 x490002 x10).bind fun bt500 => (if x8.length < 5864062014805 then (impl_geodesic.l1 k x0 (x8 ++ [(⟨bt500.1, bt500.2.1, bt500.2.2⟩ : S28)]) (wrap64 (x10 + 1)) x490000 x490001 x490002) else (none))) else (some x8)
end
def impl_geodesic.f (k : Nat) (a0 : Int) (a1_0 : Int) (a1_1 : Int) (a1_2 : Int) (a2_0 : Int) (a2_1 : Int) (a2_2 : Int) : Option ((List (S28))) := (impl_joinLevel.f k a0 a1_0 a1_1 a1_2 a2_0 a2_1 a2_2).bind fun t490 => (impl_geodesic.l0 k a0 t490 (([] : List (S28))) a1_0 a1_0 a1_1 a1_2 a2_0 a2_1 a2_2)
set_option maxHeartbeats 8000000 in
set_option maxRecDepth 100000 in
theorem impl_geodesic.calls (k : Nat) (a0 : Int) (a1_0 : Int) (a1_1 : Int) (a1_2 : Int) (a2_0 : Int) (a2_1 : Int) (a2_2 : Int) (r : List (S28)) (w : World) (h : impl_geodesic.f k a0 a1_0 a1_1 a1_2 a2_0 a2_1 a2_2 = some r) :
  Calls Try.prog 90 #[.int .i64 a0, .agg #[.int .i64 a1_0, .int .i64 a1_1, .int .i64 a1_2], .agg #[.int .i64 a2_0, .int .i64 a2_1, .int .i64 a2_2]] w fun e w' => ∃ v0_ : Value, e = .returned (v0_) ∧ Kd.R k28 28 w' w.heap.size (fun _ => True) v0_ r ∧ Below w.heap.size w w' := by
 have hu28 := Try.underlying28
 have HB := Aside0.mk (Below.refl w.heap.size w)
 have H : ((impl_joinLevel.f k a0 a1_0 a1_1 a1_2 a2_0 a2_1 a2_2).bind fun t490 => (impl_geodesic.l0 k a0 t490 (([] : List (S28))) a1_0 a1_0 a1_1 a1_2 a2_0 a2_1 a2_2)) = some r := h
 clear h
 replace H := Option.bind_eq_some_iff.mp H
 obtain ⟨t490, A40, H⟩ := H
 have A4 := Aside0.mk A40
 clear A40
 obtain ⟨y491, hy491⟩ : ∃ y_ : List (S28), y_ = (([] : List (S28))) := ⟨_, rfl⟩
 replace H : (impl_geodesic.l0 k a0 t490 y491 a1_0 a1_0 a1_1 a1_2 a2_0 a2_1 a2_2) = some r := by first | (rw [hy491]; with_reducible exact H) | (have H2_ := (Option.bind_some _ _).symm.trans H; rw [hy491]; with_reducible exact H2_) | (have H2_ := (Option.bind_some _ _).symm.trans H; with_reducible exact H2_) | with_reducible exact H | (rw [hy491]; exact H) | exact H
 have Ny491 := Aside0.mk hy491
 clear hy491
 have H' := Aside0.mk H
 clear H
 go_enter Try.func90, Try.ntmps90
 go_wp2_with (first | ((with_reducible refine gate_dst (N := 4) rfl ?_); refine bx_ 4 #[.int .i64 a1_0, .int .i64 a1_1, .int .i64 a1_2] 28 ?_; intro gb488 hg w5 hbox hb; have BK488 := Aside0.mk (hbox); have GW488 := bs_ HB hg; have GE488 := bs_ HB hg; replace HB := bt_ HB hb; clear hb hbox hg) | ((with_reducible refine gate_dst (N := 5) rfl ?_); refine bx_ 5 #[.int .i64 a2_0, .int .i64 a2_1, .int .i64 a2_2] 28 ?_; intro gb489 hg w6 hbox hb; have BK489 := Aside0.mk (hbox); have GW489 := bs_ HB hg; have GE489 := bs_ HB hg; have NB488_489 := bm_ BK488 hg; have NB489_488 := bn_ BK488 hg; replace BK488 := bb_ BK488 hb; replace HB := bt_ HB hb; clear hb hbox hg; have hnb7 := NB488_489.out; have hnc7 := NB489_488.out; have hcz8_0 : w6.cell? ⟨gb488, 0, none⟩ = some (.int .i64 a1_0) := (blk_cell BK488.out 0).trans rfl; have hcz8_1 : w6.cell? ⟨gb488, 1, none⟩ = some (.int .i64 a1_1) := (blk_cell BK488.out 1).trans rfl; have hcz8_2 : w6.cell? ⟨gb488, 2, none⟩ = some (.int .i64 a1_2) := (blk_cell BK488.out 2).trans rfl; have hfz8_0 := blk_frozen BK488.out 0; have hfz8_1 := blk_frozen BK488.out 1; have hfz8_2 := blk_frozen BK488.out 2; have hcz9_0 : w6.cell? ⟨gb489, 0, none⟩ = some (.int .i64 a2_0) := (blk_cell BK489.out 0).trans rfl; have hcz9_1 : w6.cell? ⟨gb489, 1, none⟩ = some (.int .i64 a2_1) := (blk_cell BK489.out 1).trans rfl; have hcz9_2 : w6.cell? ⟨gb489, 2, none⟩ = some (.int .i64 a2_2) := (blk_cell BK489.out 2).trans rfl; have hfz9_0 := blk_frozen BK489.out 0; have hfz9_1 := blk_frozen BK489.out 1; have hfz9_2 := blk_frozen BK489.out 2) | ((with_reducible refine gate_callee (f := 107) rfl ?_); refine goesL_ (some 14) rfl rfl Try.func107 (by kernel_rfl) rfl #[.int .i64 a0, .agg #[.int .i64 a1_0, .int .i64 a1_1, .int .i64 a1_2], .agg #[.int .i64 a2_0, .int .i64 a2_1, .int .i64 a2_2]] rfl (by (try simp only [List.map_toArray, List.map_cons, List.map_nil]); first | done | rfl | (simp only [List.length_drop, List.length_take]; rfl)) ?_; (with_reducible refine (impl_joinLevel.calls k a0 a1_0 a1_1 a1_2 a2_0 a2_1 a2_2 t490 _ A4.out).mono ?_); rintro e w10 ⟨rfl, hb⟩; refine ⟨_, rfl, ?_⟩; replace BK488 := bb_ BK488 hb; replace BK489 := bb_ BK489 hb; replace HB := bt_ HB hb; (try clear hb); (try clear hb2); (try clear hk); (try clear hi)) | ((with_reducible refine gate_dst (N := 15) rfl ?_); refine Kd.R_lit k28 _ 28 ?hg (N := 15) ?hd (xs := ([] : List (S28))) (inner := []) (ok := fun _ => True) (okp := fun _ => True) ?hr ?hp (fun _ hk => hk) trivial (Below.refl _ _) (Nat.le_refl _) (by simp) ?_; (case hd => rfl); (case hg => rfl); (case hr => first | (go_simp; done) | (go_simp; rfl)); (case hp => exact (Reps.none _ _)); intro v492 w11 ho12 hb hg_ hnew_; clear hg_ hnew_; (first | rw [← Ny491.out] at ho12 | (simp only [Int.reduceToNat] at ho12; rw [← Ny491.out] at ho12)); have HO493 := Aside0.mk (Kd.R_lower (Kd.R_newB (Kd.R_newB ho12 (g := gb488) (o := .cells #[.int .i64 a1_0, .int .i64 a1_1, .int .i64 a1_2] 28 (0, 0)) (bl_ BK488).out) (g := gb489) (o := .cells #[.int .i64 a2_0, .int .i64 a2_1, .int .i64 a2_2] 28 (0, 0)) (bl_ BK489).out) (below_size (bw_ HB).out)); replace BK488 := bb_ BK488 hb; replace BK489 := bb_ BK489 hb; replace HB := bt_ HB hb; clear hb ho12; have hcz13_0 : w11.cell? ⟨gb488, 0, none⟩ = some (.int .i64 a1_0) := (blk_cell BK488.out 0).trans rfl; have hcz13_1 : w11.cell? ⟨gb488, 1, none⟩ = some (.int .i64 a1_1) := (blk_cell BK488.out 1).trans rfl; have hcz13_2 : w11.cell? ⟨gb488, 2, none⟩ = some (.int .i64 a1_2) := (blk_cell BK488.out 2).trans rfl; have hfz13_0 := blk_frozen BK488.out 0; have hfz13_1 := blk_frozen BK488.out 1; have hfz13_2 := blk_frozen BK488.out 2))
 go_loopg [8, 9] k (fun kq v8 v9 w' => ∃ (x8_1 : List (S28)) (x9_1 : Int), v9 = .int .i64 x9_1 ∧ Aside0 (impl_geodesic.l0 kq a0 t490 x8_1 x9_1 a1_0 a1_1 a1_2 a2_0 a2_1 a2_2 = some r) ∧ Aside0 (kq ≤ k) ∧ Aside0 (Kd.R k28 28 w' w.heap.size (fun k_ => k_ ≠ gb488 ∧ k_ ≠ gb489) v8 x8_1) ∧ Aside0 (w'.heap[gb488]? = some (.cells #[.int .i64 a1_0, .int .i64 a1_1, .int .i64 a1_2] 28 (0, 0))) ∧ Aside0 (w'.heap[gb489]? = some (.cells #[.int .i64 a2_0, .int .i64 a2_1, .int .i64 a2_2] 28 (0, 0))) ∧ Aside0 (Below w.heap.size w w'))
 case atStart => exact ⟨(y491), (a1_0), (by first | rfl | (simp; done) | (simp [*]; done) | (simp [wrap64]; done)), H', ⟨Nat.le_refl _⟩, ⟨by (with_reducible repeat (first | apply Kd.R_alloc | apply Kd.R_drewN | apply Kd.R_drew)); exact Kd.R_mono HO493.out (fun _ hk => ⟨hk.1.2, hk.2⟩)⟩, bl_ BK488, bl_ BK489, bw_ HB⟩
 case round =>
  clear H'
  try clear c1
  try clear p2
  try clear c7
  try clear c9
  try clear c10
  try clear hcz13_0
  try clear hcz13_1
  try clear hcz13_2
  try clear hcz8_0
  try clear hcz8_1
  try clear hcz8_2
  try clear hcz9_0
  try clear hcz9_1
  try clear hcz9_2
  try clear hfz13_0
  try clear hfz13_1
  try clear hfz13_2
  try clear hfz8_0
  try clear hfz8_1
  try clear hfz8_2
  try clear hfz9_0
  try clear hfz9_1
  try clear hfz9_2
  obtain ⟨x8_1, x9_1, rfl, HA, HK1, HO_8, BK488, BK489, HB⟩ := hrel
  cases gk with
  | zero => exact absurd HA.out (by simp [impl_geodesic.l0])
  | succ k1 =>
   have H := HA.out
   clear HA
   simp only [impl_geodesic.l0] at H
   by_cases c14 : x9_1 ≥ t490
   ·rw [if_pos c14] at H
    have c14b0 : decide (t490 ≤ x9_1) = true := decide_eq_true c14
    clear c14
    replace H := Option.bind_eq_some_iff.mp H
    obtain ⟨⟨t494, t495, t496⟩, A150, H⟩ := H
    have A15 := Aside0.mk A150
    clear A150
    by_cases c16 : x8_1.length < 5864062014805
    ·rw [if_pos c16] at H
     have LMc16 := Aside0.mk c16
     clear c16
     obtain ⟨y497, hy497⟩ : ∃ y_ : List (S28), y_ = (x8_1 ++ [(⟨t494, t495, t496⟩ : S28)]) := ⟨_, rfl⟩
     replace H : (impl_geodesic.l0 k1 a0 t490 y497 (wrap64 (x9_1 - 1)) a1_0 a1_1 a1_2 a2_0 a2_1 a2_2) = some r := by first | (rw [hy497]; with_reducible exact H) | (have H2_ := (Option.bind_some _ _).symm.trans H; rw [hy497]; with_reducible exact H2_) | (have H2_ := (Option.bind_some _ _).symm.trans H; with_reducible exact H2_) | with_reducible exact H | (rw [hy497]; exact H) | exact H
     have Ny497 := Aside0.mk hy497
     clear hy497
     have H' := Aside0.mk H
     clear H
     have hnb17 := NB488_489.out
     have hnc17 := NB489_488.out
     have hcz18_0 : wr.cell? ⟨gb488, 0, none⟩ = some (.int .i64 a1_0) := (blk_cell BK488.out 0).trans rfl
     have hcz18_1 : wr.cell? ⟨gb488, 1, none⟩ = some (.int .i64 a1_1) := (blk_cell BK488.out 1).trans rfl
     have hcz18_2 : wr.cell? ⟨gb488, 2, none⟩ = some (.int .i64 a1_2) := (blk_cell BK488.out 2).trans rfl
     have hfz18_0 := blk_frozen BK488.out 0
     have hfz18_1 := blk_frozen BK488.out 1
     have hfz18_2 := blk_frozen BK488.out 2
     go_wp2_with (first | ((with_reducible refine gate_callee (f := 108) rfl ?_); refine goesL_ (some 27) rfl rfl Try.func108 (by kernel_rfl) rfl #[.int .i64 a0, .agg #[.int .i64 a1_0, .int .i64 a1_1, .int .i64 a1_2], .int .i64 x9_1] rfl (by (try simp only [List.map_toArray, List.map_cons, List.map_nil]); first | done | rfl | (simp only [List.length_drop, List.length_take]; rfl)) ?_; (with_reducible refine (impl_above.calls k1 a0 a1_0 a1_1 a1_2 x9_1 t494 t495 t496 _ A15.out).mono ?_); rintro e w19 ⟨rfl, hb⟩; refine ⟨_, rfl, ?_⟩; replace HO_8 := Aside0.mk (Kd.R_below (by (with_reducible repeat (first | apply Kd.R_alloc | apply Kd.R_drewN | apply Kd.R_drew)); exact HO_8.out) hb); replace BK488 := bb_ BK488 hb; replace BK489 := bb_ BK489 hb; replace HB := bt_ HB hb; (try clear hb); (try clear hb2); (try clear hk); (try clear hi)) | ((with_reducible refine gate_builtin (b := .append) (xs := #[.tmp 23, .tmp 28]) rfl ?_); at_builtin; refine Kd.R_append k28 (w0 := w) w.heap.size rfl (.tmp 23) (.tmp 28) 96 28 (.agg #[(.int .i64 0), (.int .i64 0), (.int .i64 0)]) 24 rfl Try.underlying96 info28 rfl (by decide) (by omega) u8 x8_1 (⟨t494, t495, t496⟩ : S28) [.int .i64 t494, .int .i64 t495, .int .i64 t496] (fun k_ => k_ ≠ gb488 ∧ k_ ≠ gb489) (fun _ => False) rfl rfl ?aP (fun _ hk => hk.elim) ?aF ?aO ?aB ?aS ?aL ?_; (case aP => exact k28_mkM _ _ _ (⟨t494, t495, t496⟩ : S28)); (case aB => exact (bw_ HB).out); (case aF => exact (fun k_ hk => ⟨Kd.freshB (g := gb488) (o := .cells #[.int .i64 a1_0, .int .i64 a1_1, .int .i64 a1_2] 28 (0, 0)) (bl_ BK488).out k_ hk, Kd.freshB (g := gb489) (o := .cells #[.int .i64 a2_0, .int .i64 a2_1, .int .i64 a2_2] 28 (0, 0)) (bl_ BK489).out k_ hk⟩)); (case aO => exact (by (with_reducible repeat (first | apply Kd.R_alloc | apply Kd.R_drewN | apply Kd.R_drew)); exact HO_8.out)); (case aS => exact (below_size (bw_ HB).out)); (case aL => have := LMc16.out; omega); intro v498 w20 ho hb hg hat; rw [← Ny497.out] at ho; have n0_ := Aside0.mk (blk_grown (g := gb488) (o := .cells #[.int .i64 a1_0, .int .i64 a1_1, .int .i64 a1_2] 28 (0, 0)) (bl_ BK488).out hg (Kd.R_away HO_8.out (fun _ hk => hk.1))); have n1_ := Aside0.mk (blk_grown (g := gb489) (o := .cells #[.int .i64 a2_0, .int .i64 a2_1, .int .i64 a2_2] 28 (0, 0)) (bl_ BK489).out hg (Kd.R_away HO_8.out (fun _ hk => hk.2))); have n2_ := Aside0.mk (hb); have n3_ := Aside0.mk (ho); clear BK488; clear BK489; clear HB; clear HO_8; have BK488 := n0_; have BK489 := n1_; have HB := n2_; have HO499 := n3_; clear n0_ n1_ n2_ n3_; clear ho hb hg hat))
     go_roundg k1
     case measure => have := HK1.out; omega
     case rel => exact ⟨(y497), (wrap64 (x9_1 - 1)), (by first | rfl | (simp; done) | (simp [*]; done) | (simp [wrap64]; done)), H', ⟨by have := HK1.out; omega⟩, ⟨by (with_reducible repeat (first | apply Kd.R_alloc | apply Kd.R_drewN | apply Kd.R_drew)); exact HO499.out⟩, bl_ BK488, bl_ BK489, bw_ HB⟩
    ·rw [if_neg c16] at H
     exact absurd H (by simp)
   ·rw [if_neg c14] at H
    have c14b0 : decide (t490 ≤ x9_1) = false := decide_eq_false c14
    clear c14
    have H' := Aside0.mk H
    clear H
    go_wp2
    go_loopg [8, 10] k1 (fun kq v8 v10 w' => ∃ (x8_2 : List (S28)) (x10_2 : Int), v10 = .int .i64 x10_2 ∧ Aside0 (impl_geodesic.l1 kq a0 x8_2 x10_2 a2_0 a2_1 a2_2 = some r) ∧ Aside0 (kq ≤ k1) ∧ Aside0 (Kd.R k28 28 w' w.heap.size (fun k_ => k_ ≠ gb488 ∧ k_ ≠ gb489) v8 x8_2) ∧ Aside0 (w'.heap[gb488]? = some (.cells #[.int .i64 a1_0, .int .i64 a1_1, .int .i64 a1_2] 28 (0, 0))) ∧ Aside0 (w'.heap[gb489]? = some (.cells #[.int .i64 a2_0, .int .i64 a2_1, .int .i64 a2_2] 28 (0, 0))) ∧ Aside0 (Below w.heap.size w w'))
    case atStart => exact ⟨(x8_1), (wrap64 (t490 + 1)), (by first | rfl | (simp; done) | (simp [*]; done) | (simp [wrap64]; done)), H', ⟨Nat.le_refl _⟩, ⟨by (with_reducible repeat (first | apply Kd.R_alloc | apply Kd.R_drewN | apply Kd.R_drew)); exact HO_8.out⟩, bl_ BK488, bl_ BK489, bw_ HB⟩
    case round =>
     clear H'
     try clear c1
     try clear p2
     try clear p6
     try clear c7
     try clear c9
     try clear c10
     try clear c14
     try clear c14b0
     try clear c16
     try clear c17
     try clear hcz13_0
     try clear hcz13_1
     try clear hcz13_2
     try clear hcz18_0
     try clear hcz18_1
     try clear hcz18_2
     try clear hcz8_0
     try clear hcz8_1
     try clear hcz8_2
     try clear hcz9_0
     try clear hcz9_1
     try clear hcz9_2
     try clear hfz13_0
     try clear hfz13_1
     try clear hfz13_2
     try clear hfz18_0
     try clear hfz18_1
     try clear hfz18_2
     try clear hfz8_0
     try clear hfz8_1
     try clear hfz8_2
     try clear hfz9_0
     try clear hfz9_1
     try clear hfz9_2
     try clear p2
     obtain ⟨x8_2, x10_2, rfl, HA, HK2, HO_8, BK488, BK489, HB⟩ := hrel
     cases gk with
     | zero => exact absurd HA.out (by simp [impl_geodesic.l1])
     | succ k2 =>
      have H := HA.out
      clear HA
      simp only [impl_geodesic.l1] at H
      by_cases c21 : x10_2 ≤ a2_0
      ·rw [if_pos c21] at H
       have c21b0 : decide (x10_2 ≤ a2_0) = true := decide_eq_true c21
       clear c21
       replace H := Option.bind_eq_some_iff.mp H
       obtain ⟨⟨t500, t501, t502⟩, A220, H⟩ := H
       have A22 := Aside0.mk A220
       clear A220
       by_cases c23 : x8_2.length < 5864062014805
       ·rw [if_pos c23] at H
        have LMc23 := Aside0.mk c23
        clear c23
        obtain ⟨y503, hy503⟩ : ∃ y_ : List (S28), y_ = (x8_2 ++ [(⟨t500, t501, t502⟩ : S28)]) := ⟨_, rfl⟩
        replace H : (impl_geodesic.l1 k2 a0 y503 (wrap64 (x10_2 + 1)) a2_0 a2_1 a2_2) = some r := by first | (rw [hy503]; with_reducible exact H) | (have H2_ := (Option.bind_some _ _).symm.trans H; rw [hy503]; with_reducible exact H2_) | (have H2_ := (Option.bind_some _ _).symm.trans H; with_reducible exact H2_) | with_reducible exact H | (rw [hy503]; exact H) | exact H
        have Ny503 := Aside0.mk hy503
        clear hy503
        have H' := Aside0.mk H
        clear H
        have hnb24 := NB489_488.out
        have hnc24 := NB488_489.out
        have hcz25_0 : wr.cell? ⟨gb489, 0, none⟩ = some (.int .i64 a2_0) := (blk_cell BK489.out 0).trans rfl
        have hcz25_1 : wr.cell? ⟨gb489, 1, none⟩ = some (.int .i64 a2_1) := (blk_cell BK489.out 1).trans rfl
        have hcz25_2 : wr.cell? ⟨gb489, 2, none⟩ = some (.int .i64 a2_2) := (blk_cell BK489.out 2).trans rfl
        have hfz25_0 := blk_frozen BK489.out 0
        have hfz25_1 := blk_frozen BK489.out 1
        have hfz25_2 := blk_frozen BK489.out 2
        go_wp2_with (first | ((with_reducible refine gate_callee (f := 108) rfl ?_); refine goesL_ (some 42) rfl rfl Try.func108 (by kernel_rfl) rfl #[.int .i64 a0, .agg #[.int .i64 a2_0, .int .i64 a2_1, .int .i64 a2_2], .int .i64 x10_2] rfl (by (try simp only [List.map_toArray, List.map_cons, List.map_nil]); first | done | rfl | (simp only [List.length_drop, List.length_take]; rfl)) ?_; (with_reducible refine (impl_above.calls k2 a0 a2_0 a2_1 a2_2 x10_2 t500 t501 t502 _ A22.out).mono ?_); rintro e w26 ⟨rfl, hb⟩; refine ⟨_, rfl, ?_⟩; replace HO_8 := Aside0.mk (Kd.R_below (by (with_reducible repeat (first | apply Kd.R_alloc | apply Kd.R_drewN | apply Kd.R_drew)); exact HO_8.out) hb); replace BK488 := bb_ BK488 hb; replace BK489 := bb_ BK489 hb; replace HB := bt_ HB hb; (try clear hb); (try clear hb2); (try clear hk); (try clear hi)) | ((with_reducible refine gate_builtin (b := .append) (xs := #[.tmp 38, .tmp 43]) rfl ?_); at_builtin; refine Kd.R_append k28 (w0 := w) w.heap.size rfl (.tmp 38) (.tmp 43) 96 28 (.agg #[(.int .i64 0), (.int .i64 0), (.int .i64 0)]) 24 rfl Try.underlying96 info28 rfl (by decide) (by omega) u8 x8_2 (⟨t500, t501, t502⟩ : S28) [.int .i64 t500, .int .i64 t501, .int .i64 t502] (fun k_ => k_ ≠ gb488 ∧ k_ ≠ gb489) (fun _ => False) rfl rfl ?aP (fun _ hk => hk.elim) ?aF ?aO ?aB ?aS ?aL ?_; (case aP => exact k28_mkM _ _ _ (⟨t500, t501, t502⟩ : S28)); (case aB => exact (bw_ HB).out); (case aF => exact (fun k_ hk => ⟨Kd.freshB (g := gb488) (o := .cells #[.int .i64 a1_0, .int .i64 a1_1, .int .i64 a1_2] 28 (0, 0)) (bl_ BK488).out k_ hk, Kd.freshB (g := gb489) (o := .cells #[.int .i64 a2_0, .int .i64 a2_1, .int .i64 a2_2] 28 (0, 0)) (bl_ BK489).out k_ hk⟩)); (case aO => exact (by (with_reducible repeat (first | apply Kd.R_alloc | apply Kd.R_drewN | apply Kd.R_drew)); exact HO_8.out)); (case aS => exact (below_size (bw_ HB).out)); (case aL => have := LMc23.out; omega); intro v504 w27 ho hb hg hat; rw [← Ny503.out] at ho; have n0_ := Aside0.mk (blk_grown (g := gb488) (o := .cells #[.int .i64 a1_0, .int .i64 a1_1, .int .i64 a1_2] 28 (0, 0)) (bl_ BK488).out hg (Kd.R_away HO_8.out (fun _ hk => hk.1))); have n1_ := Aside0.mk (blk_grown (g := gb489) (o := .cells #[.int .i64 a2_0, .int .i64 a2_1, .int .i64 a2_2] 28 (0, 0)) (bl_ BK489).out hg (Kd.R_away HO_8.out (fun _ hk => hk.2))); have n2_ := Aside0.mk (hb); have n3_ := Aside0.mk (ho); clear BK488; clear BK489; clear HB; clear HO_8; have BK488 := n0_; have BK489 := n1_; have HB := n2_; have HO505 := n3_; clear n0_ n1_ n2_ n3_; clear ho hb hg hat))
        go_roundg k2
        case measure => have := HK1.out; have := HK2.out; omega
        case rel => exact ⟨(y503), (wrap64 (x10_2 + 1)), (by first | rfl | (simp; done) | (simp [*]; done) | (simp [wrap64]; done)), H', ⟨by have := HK1.out; have := HK2.out; omega⟩, ⟨by (with_reducible repeat (first | apply Kd.R_alloc | apply Kd.R_drewN | apply Kd.R_drew)); exact HO505.out⟩, bl_ BK488, bl_ BK489, bw_ HB⟩
       ·rw [if_neg c23] at H
        exact absurd H (by simp)
      ·rw [if_neg c21] at H
       have c21b0 : decide (x10_2 ≤ a2_0) = false := decide_eq_false c21
       clear c21
       obtain rfl := Option.some.inj H
       have hnb28 := NB489_488.out
       have hnc28 := NB488_489.out
       have hcz29_0 : wr.cell? ⟨gb489, 0, none⟩ = some (.int .i64 a2_0) := (blk_cell BK489.out 0).trans rfl
       have hcz29_1 : wr.cell? ⟨gb489, 1, none⟩ = some (.int .i64 a2_1) := (blk_cell BK489.out 1).trans rfl
       have hcz29_2 : wr.cell? ⟨gb489, 2, none⟩ = some (.int .i64 a2_2) := (blk_cell BK489.out 2).trans rfl
       have hfz29_0 := blk_frozen BK489.out 0
       have hfz29_1 := blk_frozen BK489.out 1
       have hfz29_2 := blk_frozen BK489.out 2
       go_wp2
       go_ret
       exact ⟨_, by first | rfl | (simp [errW_none, errW_some] <;> rfl) | (simp [*, errW_none, errW_some] <;> rfl), by (with_reducible repeat (first | apply Kd.R_alloc | apply Kd.R_drewN | apply Kd.R_drew)); exact Kd.R_mono HO_8.out (fun _ hk => trivial), by repeat (first | (with_reducible first | exact HB.out | apply below_alloc | apply pw_below_drewN | apply below_drew1 | refine below_set ?_ GE488.out | refine below_set ?_ GE489.out) | exact HB.out)⟩
/-! ### impl_parent: function 120 -/
def impl_parent.f (k : Nat) (a0 : Int) (a1_0 : Int) (a1_1 : Int) (a1_2 : Int) : Option (Int × Int × Int × Bool) := (impl_mark.f k a0 a1_0 a1_1 a1_2).bind fun t508 => ((impl_ofMark.f k a0 (wrap64 (a1_0 - 1)) t508).bind fun bt509 => (some (bt509.1, bt509.2.1, bt509.2.2.1, bt509.2.2.2)))
def impl_parent.T1 : Bool × List (List Nat × List Nat) := (true, [([], []), ([], []), ([1], [1]), ([2], [2]), ([], []), ([], []), ([4, 5], [4, 5]), ([0, 3, 6, 6], [0, 3, 6]), ([7], [7]), ([7], [7]), ([8, 7, 0, 1, 2, 3, 4, 5, 6, 7, 8, 9], [8]), ([9, 10, 0, 1, 2, 3, 4, 5, 6, 7, 8, 9, 10], [9])])
def impl_parent.B1 : List Nat := [0, 0, 2, 6, 0, 0, 48, 127, 255, 255, 1023, 2047]
theorem impl_parent.tab1 : rtab .any (opsOf Try.f120 1) = impl_parent.T1 := by kernel_rfl
theorem impl_parent.bits1 : waitsOk impl_parent.T1.2 impl_parent.B1 = true := by kernel_rfl
set_option maxHeartbeats 8000000 in
set_option maxRecDepth 100000 in
theorem impl_parent.calls (k : Nat) (a0 : Int) (a1_0 : Int) (a1_1 : Int) (a1_2 : Int) (r1 : Int) (r2 : Int) (r3 : Int) (r4 : Bool) (w : World) (h : impl_parent.f k a0 a1_0 a1_1 a1_2 = some (r1, r2, r3, r4)) :
  Calls Try.prog 120 #[.int .i64 a0, .agg #[.int .i64 a1_0, .int .i64 a1_1, .int .i64 a1_2]] w fun e w' => e = .returned (.tuple #[.agg #[.int .i64 r1, .int .i64 r2, .int .i64 r3], .bool r4]) ∧ Below w.heap.size w w' := by
 have hu28 := Try.underlying28
 have HB := Aside0.mk (Below.refl w.heap.size w)
 have H : ((impl_mark.f k a0 a1_0 a1_1 a1_2).bind fun t508 => ((impl_ofMark.f k a0 (wrap64 (a1_0 - 1)) t508).bind fun bt509 => (some (bt509.1, bt509.2.1, bt509.2.2.1, bt509.2.2.2)))) = some (r1, r2, r3, r4) := h
 clear h
 replace H := Option.bind_eq_some_iff.mp H
 obtain ⟨t508, A30, H⟩ := H
 have A3 := Aside0.mk A30
 clear A30
 replace H := Option.bind_eq_some_iff.mp H
 obtain ⟨⟨t509, t510, t511, t512⟩, A40, H⟩ := H
 have A4 := Aside0.mk A40
 clear A40
 simp only [Option.some.injEq, Prod.mk.injEq] at H
 obtain ⟨rfl, rfl, rfl, rfl⟩ := H
 go_enter Try.func120, Try.ntmps120
 try go_wp2_with (first | ((with_reducible refine gate_dst (N := 3) rfl ?_); refine bx_ 3 #[.int .i64 a1_0, .int .i64 a1_1, .int .i64 a1_2] 28 ?_; intro gb506 hg w5 hbox hb; have BK506 := Aside0.mk (hbox); have GW506 := bs_ HB hg; have GE506 := bs_ HB hg; replace HB := bt_ HB hb; clear hb hbox hg) | ((with_reducible refine gate_dst (N := 4) rfl ?_); refine bx_ 4 #[.int .i64 0, .int .i64 0, .int .i64 0] 28 ?_; intro gb507 hg w6 hbox hb; have BK507 := Aside0.mk (hbox); have GW507 := bs_ HB hg; have GE507 := bs_ HB hg; have NB506_507 := bm_ BK506 hg; have NB507_506 := bn_ BK506 hg; replace BK506 := bb_ BK506 hb; replace HB := bt_ HB hb; clear hb hbox hg))
 replace BK506 := Aside0.mk (blk_drew BK506.out)
 replace BK507 := Aside0.mk (blk_drew BK507.out)
 replace HB := Aside0.mk (below_drew1 HB.out)
 refine start_ (n := 12) (S := fun w' => w'.cell? ⟨gb506, 0, none⟩ = some (.int .i64 a1_0) ∧ w'.cell? ⟨gb506, 1, none⟩ = some (.int .i64 a1_1) ∧ w'.cell? ⟨gb506, 2, none⟩ = some (.int .i64 a1_2)) (ds := []) #[false, false, false, false, false, false, false, false, false, false, false, false] (by kernel_rfl) rfl rfl ⟨(blk_cell BK506.out 0).trans rfl, (blk_cell BK506.out 1).trans rfl, (blk_cell BK506.out 2).trans rfl⟩ (fun hHeld => ?_); refine with_tabW impl_parent.tab1 impl_parent.bits1 (fun HT_ HW_ => ?_)
 generalize w6.drew = w7 at BK506 BK507 HB hHeld ⊢
 refine pu_ HT_ 0 (some 6) #[true, false, false, false, false, false, false, false, false, false, false, false] ?_
 refine pu_ HT_ 1 (some 7) #[true, true, false, false, false, false, false, false, false, false, false, false] ?_
 refine pu_ HT_ 4 (some 10) #[true, true, false, false, true, false, false, false, false, false, false, false] ?_
 refine ta_ HT_ HW_ 2 (some 8) #[true, true, true, false, true, false, false, false, false, false, false, false] hHeld ?_ (hy := by rintro w' ⟨s0, s1, s2⟩; go_simp; with_reducible rfl)
 refine pu_ HT_ 3 (some 9) #[true, true, true, true, true, false, false, false, false, false, false, false] ?_
 refine ta_ HT_ HW_ 5 (some 11) #[true, true, true, true, true, true, false, false, false, false, false, false] hHeld ?_ (hy := by rintro w' ⟨s0, s1, s2⟩; go_simp; with_reducible rfl)
 refine one_ (i := 6) (N := some 12) #[true, true, true, true, true, true, true, false, false, false, false, false] rfl rfl (one_of HT_.out (by kernel_rfl)) (by decide) (fun K hK => ?_)
 refine goes_ Try.func79 (by kernel_rfl) rfl #[.int .i64 a0, .agg #[.int .i64 a1_0, .int .i64 a1_1, .int .i64 a1_2]] (by rfl) rfl rfl (by (try simp only [List.map_toArray, List.map_cons, List.map_nil]); first | done | rfl | (simp only [List.length_drop, List.length_take]; rfl)) ?_
 with_reducible refine (impl_mark.calls k a0 a1_0 a1_1 a1_2 t508 _ A3.out).mono ?_
 rintro e w8 ⟨rfl, hb⟩
 refine ⟨_, rfl, ?_⟩
 replace BK506 := bb_ BK506 hb
 replace BK507 := bb_ BK507 hb
 replace HB := bt_ HB hb
 (try clear hb)
 (try clear hb2)
 (try clear hk)
 (try clear hi)
 refine hK.out _ _ ⟨(blk_cell BK506.out 0).trans rfl, (blk_cell BK506.out 1).trans rfl, (blk_cell BK506.out 2).trans rfl⟩ (fun hHeld => ?_)
 clear hK K
 refine norm_ (a' := ?_) ?_ ?_
 rotate_left
 ·show Act.put _ (some 12) _ = _
  simp only [Act.put, lstS, lstZ, lstC, i64_w, i32_w]
  rfl
 refine one_ (i := 7) (N := some 13) #[true, true, true, true, true, true, true, true, false, false, false, false] rfl rfl (one_of HT_.out (by kernel_rfl)) (by decide) (fun K hK => ?_)
 refine goes_ Try.func101 (by kernel_rfl) rfl #[.int .i64 a0, .int .i64 (wrap64 (a1_0 - 1)), .int .i64 t508] (by rfl) rfl rfl (by (try simp only [List.map_toArray, List.map_cons, List.map_nil]); first | done | rfl | (simp only [List.length_drop, List.length_take]; rfl)) ?_
 with_reducible refine (impl_ofMark.calls k a0 (wrap64 (a1_0 - 1)) t508 t509 t510 t511 t512 _ A4.out).mono ?_
 rintro e w9 ⟨rfl, hb⟩
 refine ⟨_, rfl, ?_⟩
 replace BK506 := bb_ BK506 hb
 replace BK507 := bb_ BK507 hb
 replace HB := bt_ HB hb
 (try clear hb)
 (try clear hb2)
 (try clear hk)
 (try clear hi)
 refine hK.out _ _ ⟨(blk_cell BK506.out 0).trans rfl, (blk_cell BK506.out 1).trans rfl, (blk_cell BK506.out 2).trans rfl⟩ (fun hHeld => ?_)
 clear hK K
 refine norm_ (a' := ?_) ?_ ?_
 rotate_left
 ·show Act.put _ (some 13) _ = _
  simp only [Act.put, lstS, lstZ, lstC, i64_w, i32_w]
  rfl
 refine pu_ HT_ 8 (some 14) #[true, true, true, true, true, true, true, true, true, false, false, false] ?_
 refine pu_ HT_ 9 (some 15) #[true, true, true, true, true, true, true, true, true, true, false, false] ?_
 refine one_ (i := 10) (N := none) #[true, true, true, true, true, true, true, true, true, true, true, false] rfl rfl (one_of HT_.out (by kernel_rfl)) (by decide) (fun K hK => ?_)
 have hs10 : w9.cell? ⟨gb507, 0, none⟩ = some (.int .i64 0) := (blk_cell BK507.out 0).trans rfl
 have hfs10 := blk_frozen BK507.out 0
 have hns10_0 := NB506_507.out
 have hms10_0 := NB507_506.out
 have hs11 : w9.cell? ⟨gb507, 1, none⟩ = some (.int .i64 0) := (blk_cell BK507.out 1).trans rfl
 have hfs11 := blk_frozen BK507.out 1
 have hns11_0 := NB506_507.out
 have hms11_0 := NB507_506.out
 have hs12 : w9.cell? ⟨gb507, 2, none⟩ = some (.int .i64 0) := (blk_cell BK507.out 2).trans rfl
 have hfs12 := blk_frozen BK507.out 2
 have hns12_0 := NB506_507.out
 have hms12_0 := NB507_506.out
 refine skip_ (w1 := ?_) (by rfl) rfl ?_ ?_
 rotate_left
 ·go_simp
  rfl
 refine hK.out _ _ ⟨((cell_far (p := ⟨gb507, _, none⟩) NB506_507.out _).trans (((cell_far (p := ⟨gb507, _, none⟩) NB506_507.out _).trans (((cell_far (p := ⟨gb507, _, none⟩) NB506_507.out _).trans (hHeld.1)))))), ((cell_far (p := ⟨gb507, _, none⟩) NB506_507.out _).trans (((cell_far (p := ⟨gb507, _, none⟩) NB506_507.out _).trans (((cell_far (p := ⟨gb507, _, none⟩) NB506_507.out _).trans (hHeld.2.1)))))), ((cell_far (p := ⟨gb507, _, none⟩) NB506_507.out _).trans (((cell_far (p := ⟨gb507, _, none⟩) NB506_507.out _).trans (((cell_far (p := ⟨gb507, _, none⟩) NB506_507.out _).trans (hHeld.2.2))))))⟩ (fun hHeld => ?_)
 clear hK K
 refine pu_ HT_ 11 (some 5) #[true, true, true, true, true, true, true, true, true, true, true, true] ?_
 refine done_ (done_of HT_.out (by kernel_rfl)) ?_
 try go_wp2
 refine bodyPost_ret (results_ct rfl _ _ gb507 28 #[.int .i64 t509, .int .i64 t510, .int .i64 t511] (0, 0) _ rfl (by (with_reducible repeat first | apply blk_drewN | apply blk_drew | apply blk_alloc); refine blk_put (cs := #[.int .i64 t509, .int .i64 t510, .int .i64 0]) ?_ 2 _ rfl; (with_reducible repeat first | apply blk_drewN | apply blk_drew | apply blk_alloc); refine blk_put (cs := #[.int .i64 t509, .int .i64 0, .int .i64 0]) ?_ 1 _ rfl; (with_reducible repeat first | apply blk_drewN | apply blk_drew | apply blk_alloc); refine blk_put (cs := #[.int .i64 0, .int .i64 0, .int .i64 0]) ?_ 0 _ rfl; (with_reducible repeat first | apply blk_drewN | apply blk_drew | apply blk_alloc); exact BK507.out) Try.underlying28 rfl (by kernel_rfl)) rfl ?_
 exact ⟨by first | rfl | (simp [errW_none, errW_some] <;> rfl) | (simp [*, errW_none, errW_some] <;> rfl), by repeat (first | (with_reducible first | exact HB.out | apply below_alloc | apply pw_below_drewN | apply below_drew1 | refine below_set ?_ GE506.out | refine below_set ?_ GE507.out) | exact HB.out)⟩
/-! ### impl_child: function 121 -/
def impl_child.f (k : Nat) (a0 : Int) (a1_0 : Int) (a1_1 : Int) (a1_2 : Int) (a2 : Int) : Option (Int × Int × Int × Bool) := (impl_mark.f k a0 a1_0 a1_1 a1_2).bind fun t515 => ((impl_power.f k a0 (wrap64 (a1_0 + 6))).bind fun t516 => ((impl_ofMark.f k a0 (wrap64 (a1_0 + 1)) (wrap64 (t515 + (wrap64 (a2 * t516))))).bind fun bt517 => (some (bt517.1, bt517.2.1, bt517.2.2.1, bt517.2.2.2))))
def impl_child.T1 : Bool × List (List Nat × List Nat) := (true, [([], []), ([], []), ([1], [1]), ([2], [2]), ([], []), ([], []), ([4, 5], [4, 5]), ([], []), ([], []), ([], []), ([9], [9]), ([10], [10]), ([8, 11, 6], [8, 11]), ([7, 12], [7, 12]), ([6, 13], [6, 13]), ([0, 3, 14, 12], [0, 3, 14]), ([15], [15]), ([15], [15]), ([16, 15, 0, 1, 2, 3, 4, 5, 6, 7, 8, 9, 10, 11, 12, 13, 14, 15, 16, 17], [16]), ([17, 18, 0, 1, 2, 3, 4, 5, 6, 7, 8, 9, 10, 11, 12, 13, 14, 15, 16, 17, 18], [17])])
def impl_child.B1 : List Nat := [0, 0, 2, 6, 0, 0, 48, 0, 0, 0, 512, 1536, 3952, 8176, 16368, 32767, 65535, 65535, 262143, 524287]
theorem impl_child.tab1 : rtab .any (opsOf Try.f121 1) = impl_child.T1 := by kernel_rfl
theorem impl_child.bits1 : waitsOk impl_child.T1.2 impl_child.B1 = true := by kernel_rfl
set_option maxHeartbeats 8000000 in
set_option maxRecDepth 100000 in
theorem impl_child.calls (k : Nat) (a0 : Int) (a1_0 : Int) (a1_1 : Int) (a1_2 : Int) (a2 : Int) (r1 : Int) (r2 : Int) (r3 : Int) (r4 : Bool) (w : World) (h : impl_child.f k a0 a1_0 a1_1 a1_2 a2 = some (r1, r2, r3, r4)) :
  Calls Try.prog 121 #[.int .i64 a0, .agg #[.int .i64 a1_0, .int .i64 a1_1, .int .i64 a1_2], .int .i64 a2] w fun e w' => e = .returned (.tuple #[.agg #[.int .i64 r1, .int .i64 r2, .int .i64 r3], .bool r4]) ∧ Below w.heap.size w w' := by
 have hu28 := Try.underlying28
 have HB := Aside0.mk (Below.refl w.heap.size w)
 have H : ((impl_mark.f k a0 a1_0 a1_1 a1_2).bind fun t515 => ((impl_power.f k a0 (wrap64 (a1_0 + 6))).bind fun t516 => ((impl_ofMark.f k a0 (wrap64 (a1_0 + 1)) (wrap64 (t515 + (wrap64 (a2 * t516))))).bind fun bt517 => (some (bt517.1, bt517.2.1, bt517.2.2.1, bt517.2.2.2))))) = some (r1, r2, r3, r4) := h
 clear h
 replace H := Option.bind_eq_some_iff.mp H
 obtain ⟨t515, A40, H⟩ := H
 have A4 := Aside0.mk A40
 clear A40
 replace H := Option.bind_eq_some_iff.mp H
 obtain ⟨t516, A50, H⟩ := H
 have A5 := Aside0.mk A50
 clear A50
 replace H := Option.bind_eq_some_iff.mp H
 obtain ⟨⟨t517, t518, t519, t520⟩, A60, H⟩ := H
 have A6 := Aside0.mk A60
 clear A60
 simp only [Option.some.injEq, Prod.mk.injEq] at H
 obtain ⟨rfl, rfl, rfl, rfl⟩ := H
 go_enter Try.func121, Try.ntmps121
 try go_wp2_with (first | ((with_reducible refine gate_dst (N := 4) rfl ?_); refine bx_ 4 #[.int .i64 a1_0, .int .i64 a1_1, .int .i64 a1_2] 28 ?_; intro gb513 hg w7 hbox hb; have BK513 := Aside0.mk (hbox); have GW513 := bs_ HB hg; have GE513 := bs_ HB hg; replace HB := bt_ HB hb; clear hb hbox hg) | ((with_reducible refine gate_dst (N := 6) rfl ?_); refine bx_ 6 #[.int .i64 0, .int .i64 0, .int .i64 0] 28 ?_; intro gb514 hg w8 hbox hb; have BK514 := Aside0.mk (hbox); have GW514 := bs_ HB hg; have GE514 := bs_ HB hg; have NB513_514 := bm_ BK513 hg; have NB514_513 := bn_ BK513 hg; replace BK513 := bb_ BK513 hb; replace HB := bt_ HB hb; clear hb hbox hg))
 replace BK513 := Aside0.mk (blk_drew BK513.out)
 replace BK514 := Aside0.mk (blk_drew BK514.out)
 replace HB := Aside0.mk (below_drew1 HB.out)
 refine start_ (n := 20) (S := fun w' => w'.cell? ⟨gb513, 0, none⟩ = some (.int .i64 a1_0) ∧ w'.cell? ⟨gb513, 1, none⟩ = some (.int .i64 a1_1) ∧ w'.cell? ⟨gb513, 2, none⟩ = some (.int .i64 a1_2)) (ds := []) #[false, false, false, false, false, false, false, false, false, false, false, false, false, false, false, false, false, false, false, false] (by kernel_rfl) rfl rfl ⟨(blk_cell BK513.out 0).trans rfl, (blk_cell BK513.out 1).trans rfl, (blk_cell BK513.out 2).trans rfl⟩ (fun hHeld => ?_); refine with_tabW impl_child.tab1 impl_child.bits1 (fun HT_ HW_ => ?_)
 generalize w8.drew = w9 at BK513 BK514 HB hHeld ⊢
 refine pu_ HT_ 0 (some 8) #[true, false, false, false, false, false, false, false, false, false, false, false, false, false, false, false, false, false, false, false] ?_
 refine pu_ HT_ 1 (some 9) #[true, true, false, false, false, false, false, false, false, false, false, false, false, false, false, false, false, false, false, false] ?_
 refine pu_ HT_ 4 (some 12) #[true, true, false, false, true, false, false, false, false, false, false, false, false, false, false, false, false, false, false, false] ?_
 refine pu_ HT_ 7 (some 15) #[true, true, false, false, true, false, false, true, false, false, false, false, false, false, false, false, false, false, false, false] ?_
 refine pu_ HT_ 8 (some 16) #[true, true, false, false, true, false, false, true, true, false, false, false, false, false, false, false, false, false, false, false] ?_
 refine pu_ HT_ 9 (some 17) #[true, true, false, false, true, false, false, true, true, true, false, false, false, false, false, false, false, false, false, false] ?_
 refine ta_ HT_ HW_ 2 (some 10) #[true, true, true, false, true, false, false, true, true, true, false, false, false, false, false, false, false, false, false, false] hHeld ?_ (hy := by rintro w' ⟨s0, s1, s2⟩; go_simp; with_reducible rfl)
 refine pu_ HT_ 3 (some 11) #[true, true, true, true, true, false, false, true, true, true, false, false, false, false, false, false, false, false, false, false] ?_
 refine ta_ HT_ HW_ 5 (some 13) #[true, true, true, true, true, true, false, true, true, true, false, false, false, false, false, false, false, false, false, false] hHeld ?_ (hy := by rintro w' ⟨s0, s1, s2⟩; go_simp; with_reducible rfl)
 refine ta_ HT_ HW_ 10 (some 18) #[true, true, true, true, true, true, false, true, true, true, true, false, false, false, false, false, false, false, false, false] hHeld ?_ (hy := by rintro w' ⟨s0, s1, s2⟩; go_simp; with_reducible rfl)
 refine pu_ HT_ 11 (some 19) #[true, true, true, true, true, true, false, true, true, true, true, true, false, false, false, false, false, false, false, false] ?_
 refine one_ (i := 6) (N := some 14) #[true, true, true, true, true, true, true, true, true, true, true, true, false, false, false, false, false, false, false, false] rfl rfl (one_of HT_.out (by kernel_rfl)) (by decide) (fun K hK => ?_)
 refine goes_ Try.func79 (by kernel_rfl) rfl #[.int .i64 a0, .agg #[.int .i64 a1_0, .int .i64 a1_1, .int .i64 a1_2]] (by rfl) rfl rfl (by (try simp only [List.map_toArray, List.map_cons, List.map_nil]); first | done | rfl | (simp only [List.length_drop, List.length_take]; rfl)) ?_
 with_reducible refine (impl_mark.calls k a0 a1_0 a1_1 a1_2 t515 _ A4.out).mono ?_
 rintro e w10 ⟨rfl, hb⟩
 refine ⟨_, rfl, ?_⟩
 replace BK513 := bb_ BK513 hb
 replace BK514 := bb_ BK514 hb
 replace HB := bt_ HB hb
 (try clear hb)
 (try clear hb2)
 (try clear hk)
 (try clear hi)
 refine hK.out _ _ ⟨(blk_cell BK513.out 0).trans rfl, (blk_cell BK513.out 1).trans rfl, (blk_cell BK513.out 2).trans rfl⟩ (fun hHeld => ?_)
 clear hK K
 refine norm_ (a' := ?_) ?_ ?_
 rotate_left
 ·show Act.put _ (some 14) _ = _
  simp only [Act.put, lstS, lstZ, lstC, i64_w, i32_w]
  rfl
 refine one_ (i := 12) (N := some 20) #[true, true, true, true, true, true, true, true, true, true, true, true, true, false, false, false, false, false, false, false] rfl rfl (one_of HT_.out (by kernel_rfl)) (by decide) (fun K hK => ?_)
 refine goes_ Try.func80 (by kernel_rfl) rfl #[.int .i64 a0, .int .i64 (wrap64 (a1_0 + 6))] (by rfl) rfl rfl (by (try simp only [List.map_toArray, List.map_cons, List.map_nil]); first | done | rfl | (simp only [List.length_drop, List.length_take]; rfl)) ?_
 with_reducible refine (impl_power.calls k a0 (wrap64 (a1_0 + 6)) t516 _ A5.out).mono ?_
 rintro e w' ⟨rfl, ⟨nd, rfl⟩⟩
 refine ⟨_, rfl, ?_⟩
 refine hK.out _ _ ⟨(blk_cell BK513.out 0).trans rfl, (blk_cell BK513.out 1).trans rfl, (blk_cell BK513.out 2).trans rfl⟩ (fun hHeld => ?_)
 clear hK K
 refine norm_ (a' := ?_) ?_ ?_
 rotate_left
 ·show Act.put _ (some 20) _ = _
  simp only [Act.put, lstS, lstZ, lstC, i64_w, i32_w]
  rfl
 refine pu_ HT_ 13 (some 21) #[true, true, true, true, true, true, true, true, true, true, true, true, true, true, false, false, false, false, false, false] ?_
 refine pu_ HT_ 14 (some 22) #[true, true, true, true, true, true, true, true, true, true, true, true, true, true, true, false, false, false, false, false] ?_
 refine one_ (i := 15) (N := some 23) #[true, true, true, true, true, true, true, true, true, true, true, true, true, true, true, true, false, false, false, false] rfl rfl (one_of HT_.out (by kernel_rfl)) (by decide) (fun K hK => ?_)
 refine goes_ Try.func101 (by kernel_rfl) rfl #[.int .i64 a0, .int .i64 (wrap64 (a1_0 + 1)), .int .i64 (wrap64 (t515 + (wrap64 (a2 * t516))))] (by rfl) rfl rfl (by (try simp only [List.map_toArray, List.map_cons, List.map_nil]); first | done | rfl | (simp only [List.length_drop, List.length_take]; rfl)) ?_
 with_reducible refine (impl_ofMark.calls k a0 (wrap64 (a1_0 + 1)) (wrap64 (t515 + (wrap64 (a2 * t516)))) t517 t518 t519 t520 _ A6.out).mono ?_
 rintro e w11 ⟨rfl, hb⟩
 refine ⟨_, rfl, ?_⟩
 replace BK513 := bb_ BK513 hb
 replace BK514 := bb_ BK514 hb
 replace HB := bt_ HB hb
 (try clear hb)
 (try clear hb2)
 (try clear hk)
 (try clear hi)
 refine hK.out _ _ ⟨(blk_cell BK513.out 0).trans rfl, (blk_cell BK513.out 1).trans rfl, (blk_cell BK513.out 2).trans rfl⟩ (fun hHeld => ?_)
 clear hK K
 refine norm_ (a' := ?_) ?_ ?_
 rotate_left
 ·show Act.put _ (some 23) _ = _
  simp only [Act.put, lstS, lstZ, lstC, i64_w, i32_w]
  rfl
 refine pu_ HT_ 16 (some 24) #[true, true, true, true, true, true, true, true, true, true, true, true, true, true, true, true, true, false, false, false] ?_
 refine pu_ HT_ 17 (some 25) #[true, true, true, true, true, true, true, true, true, true, true, true, true, true, true, true, true, true, false, false] ?_
 refine one_ (i := 18) (N := none) #[true, true, true, true, true, true, true, true, true, true, true, true, true, true, true, true, true, true, true, false] rfl rfl (one_of HT_.out (by kernel_rfl)) (by decide) (fun K hK => ?_)
 have hs12 : w11.cell? ⟨gb514, 0, none⟩ = some (.int .i64 0) := (blk_cell BK514.out 0).trans rfl
 have hfs12 := blk_frozen BK514.out 0
 have hns12_0 := NB513_514.out
 have hms12_0 := NB514_513.out
 have hs13 : w11.cell? ⟨gb514, 1, none⟩ = some (.int .i64 0) := (blk_cell BK514.out 1).trans rfl
 have hfs13 := blk_frozen BK514.out 1
 have hns13_0 := NB513_514.out
 have hms13_0 := NB514_513.out
 have hs14 : w11.cell? ⟨gb514, 2, none⟩ = some (.int .i64 0) := (blk_cell BK514.out 2).trans rfl
 have hfs14 := blk_frozen BK514.out 2
 have hns14_0 := NB513_514.out
 have hms14_0 := NB514_513.out
 refine skip_ (w1 := ?_) (by rfl) rfl ?_ ?_
 rotate_left
 ·go_simp
  rfl
 refine hK.out _ _ ⟨((cell_far (p := ⟨gb514, _, none⟩) NB513_514.out _).trans (((cell_far (p := ⟨gb514, _, none⟩) NB513_514.out _).trans (((cell_far (p := ⟨gb514, _, none⟩) NB513_514.out _).trans (hHeld.1)))))), ((cell_far (p := ⟨gb514, _, none⟩) NB513_514.out _).trans (((cell_far (p := ⟨gb514, _, none⟩) NB513_514.out _).trans (((cell_far (p := ⟨gb514, _, none⟩) NB513_514.out _).trans (hHeld.2.1)))))), ((cell_far (p := ⟨gb514, _, none⟩) NB513_514.out _).trans (((cell_far (p := ⟨gb514, _, none⟩) NB513_514.out _).trans (((cell_far (p := ⟨gb514, _, none⟩) NB513_514.out _).trans (hHeld.2.2))))))⟩ (fun hHeld => ?_)
 clear hK K
 refine pu_ HT_ 19 (some 7) #[true, true, true, true, true, true, true, true, true, true, true, true, true, true, true, true, true, true, true, true] ?_
 refine done_ (done_of HT_.out (by kernel_rfl)) ?_
 try go_wp2
 refine bodyPost_ret (results_ct rfl _ _ gb514 28 #[.int .i64 t517, .int .i64 t518, .int .i64 t519] (0, 0) _ rfl (by (with_reducible repeat first | apply blk_drewN | apply blk_drew | apply blk_alloc); refine blk_put (cs := #[.int .i64 t517, .int .i64 t518, .int .i64 0]) ?_ 2 _ rfl; (with_reducible repeat first | apply blk_drewN | apply blk_drew | apply blk_alloc); refine blk_put (cs := #[.int .i64 t517, .int .i64 0, .int .i64 0]) ?_ 1 _ rfl; (with_reducible repeat first | apply blk_drewN | apply blk_drew | apply blk_alloc); refine blk_put (cs := #[.int .i64 0, .int .i64 0, .int .i64 0]) ?_ 0 _ rfl; (with_reducible repeat first | apply blk_drewN | apply blk_drew | apply blk_alloc); exact BK514.out) Try.underlying28 rfl (by kernel_rfl)) rfl ?_
 exact ⟨by first | rfl | (simp [errW_none, errW_some] <;> rfl) | (simp [*, errW_none, errW_some] <;> rfl), by repeat (first | (with_reducible first | exact HB.out | apply below_alloc | apply pw_below_drewN | apply below_drew1 | refine below_set ?_ GE513.out | refine below_set ?_ GE514.out) | exact HB.out)⟩
end Go.Proofs.Ytojpcbbmbnmchaa.QC
