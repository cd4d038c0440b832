-- Written by a program of this session out of Lean's own print of the loaded program; Lean checks it.
import Derived.Test.YtbldceikdajdlaaQCx5
import Derived.Test.YtbldceikdajdlaaQCx12
namespace Go.Proofs.Ytbldceikdajdlaa.QC
open Go.RowKit Go.Proofs.YtbldceikdajdlaaW.PrintWords Go.Proofs.YtbldceikdajdlaaW.PrintLast Go.Proofs.YtbldceikdajdlaaW.PrintMore
attribute [local go_sem] isSome_setCell max2_int min2_int max_two min_two max_three min_three max_four min_four   -- for this text's walks alone
set_option linter.unusedVariables false
set_option linter.unusedSimpArgs false

/-! ### spec_l02Children: function 26 -/
def spec_l02Children.l0 : Nat → Int → List (S25) → Int → Int → Int → Int → Option ((List (S25)) × Bool)
 | 0, _, _, _, _, _, _ => none
 | k + 1, x0, x6, x7, x138000, x138001, x138002 => if x7 < x0 then ((spec_l01Child.f k x0 x138000 x138001 x138002 x7).bind fun bt141 => (if bt141.2.2.2 = true then (if x6.length < 5864062014805 then (spec_l02Children.l0 k x0 (x6 ++ [(⟨bt141.1, bt141.2.1, bt141.2.2.1⟩ : S25)]) (wrap64 (x7 + 1)) x138000 x138001 x138002) else (none)) else (some (([] : List (S25)), false)))) else (some (x6, true))
def spec_l02Children.f (k : Nat) (a0 : Int) (a1_0 : Int) (a1_1 : Int) (a1_2 : Int) : Option ((List (S25)) × Bool) := spec_l02Children.l0 k a0 (([] : List (S25))) 0 a1_0 a1_1 a1_2
set_option maxHeartbeats 8000000 in
set_option maxRecDepth 100000 in
theorem spec_l02Children.calls (k : Nat) (a0 : Int) (a1_0 : Int) (a1_1 : Int) (a1_2 : Int) (r1 : List (S25)) (r2 : Bool) (w : World) (h : spec_l02Children.f k a0 a1_0 a1_1 a1_2 = some (r1, r2)) :
  Calls Try.prog 26 #[.int .i64 a0, .agg #[.int .i64 a1_0, .int .i64 a1_1, .int .i64 a1_2]] w fun e w' => ∃ v0_ : Value, e = .returned (.tuple #[v0_, .bool r2]) ∧ Kd.R k25 25 w' w.heap.size (fun _ => True) v0_ r1 ∧ Below w.heap.size w w' := by
 have hu25 := Try.underlying25
 have HB := Aside0.mk (Below.refl w.heap.size w)
 have H : (spec_l02Children.l0 k a0 (([] : List (S25))) 0 a1_0 a1_1 a1_2) = some (r1, r2) := h
 clear h
 obtain ⟨y138, hy138⟩ : ∃ y_ : List (S25), y_ = (([] : List (S25))) := ⟨_, rfl⟩
 replace H : (spec_l02Children.l0 k a0 y138 0 a1_0 a1_1 a1_2) = some (r1, r2) := by first | (rw [hy138]; with_reducible exact H) | (have H2_ := (Option.bind_some _ _).symm.trans H; rw [hy138]; with_reducible exact H2_) | (have H2_ := (Option.bind_some _ _).symm.trans H; with_reducible exact H2_) | with_reducible exact H | (rw [hy138]; exact H) | exact H
 have Ny138 := Aside0.mk hy138
 clear hy138
 have H' := Aside0.mk H
 clear H
 go_enter Try.func26, Try.ntmps26
 go_wp2_with (first | ((with_reducible refine gate_dst (N := 3) rfl ?_); refine bx_ 3 #[.int .i64 a1_0, .int .i64 a1_1, .int .i64 a1_2] 25 ?_; intro gb137 hg w3 hbox hb; have BK137 := Aside0.mk (hbox); have GW137 := bs_ HB hg; have GE137 := bs_ HB hg; replace HB := bt_ HB hb; clear hb hbox hg) | ((with_reducible refine gate_dst (N := 10) rfl ?_); refine Kd.R_lit k25 _ 25 ?hg (N := 10) ?hd (xs := ([] : List (S25))) (inner := []) (ok := fun _ => True) (okp := fun _ => True) ?hr ?hp (fun _ hk => hk) trivial (Below.refl _ _) (Nat.le_refl _) (by simp) ?_; (case hd => rfl); (case hg => rfl); (case hr => first | (go_simp; done) | (go_simp; rfl)); (case hp => exact (Reps.none _ _)); intro v139 w4 ho5 hb hg_ hnew_; clear hg_ hnew_; (first | rw [← Ny138.out] at ho5 | (simp only [Int.reduceToNat] at ho5; rw [← Ny138.out] at ho5)); have HO140 := Aside0.mk (Kd.R_lower (Kd.R_newB ho5 (g := gb137) (o := .cells #[.int .i64 a1_0, .int .i64 a1_1, .int .i64 a1_2] 25 (0, 0)) (bl_ BK137).out) (below_size (bw_ HB).out)); replace BK137 := bb_ BK137 hb; replace HB := bt_ HB hb; clear hb ho5))
 go_loopg [6, 7] k (fun kq v6 v7 w' => ∃ (x6_1 : List (S25)) (x7_1 : Int), v7 = .int .i64 x7_1 ∧ Aside0 (spec_l02Children.l0 kq a0 x6_1 x7_1 a1_0 a1_1 a1_2 = some (r1, r2)) ∧ Aside0 (kq ≤ k) ∧ Aside0 (Kd.R k25 25 w' w.heap.size (fun k_ => k_ ≠ gb137) v6 x6_1) ∧ Aside0 (w'.heap[gb137]? = some (.cells #[.int .i64 a1_0, .int .i64 a1_1, .int .i64 a1_2] 25 (0, 0))) ∧ Aside0 (Below w.heap.size w w'))
 case atStart => exact ⟨(y138), (0), (by first | rfl | (simp; done) | (simp [*]; done) | (simp [wrap64]; done)), H', ⟨Nat.le_refl _⟩, ⟨by (with_reducible repeat (first | apply Kd.R_alloc | apply Kd.R_drewN | apply Kd.R_drew)); exact Kd.R_mono HO140.out (fun _ hk => hk.2)⟩, bl_ BK137, bw_ HB⟩
 case round =>
  clear H'
  try clear c2
  try clear p2
  obtain ⟨x6_1, x7_1, rfl, HA, HK1, HO_6, BK137, HB⟩ := hrel
  cases gk with
  | zero => exact absurd HA.out (by simp [spec_l02Children.l0])
  | succ k1 =>
   have H := HA.out
   clear HA
   simp only [spec_l02Children.l0] at H
   by_cases c6 : x7_1 < a0
   ·rw [if_pos c6] at H
    have c6b0 : decide (x7_1 < a0) = true := decide_eq_true c6
    clear c6
    replace H := Option.bind_eq_some_iff.mp H
    obtain ⟨⟨t141, t142, t143, t144⟩, A70, H⟩ := H
    have A7 := Aside0.mk A70
    clear A70
    by_cases c8 : t144 = true
    ·subst c8
     have H1 : (if x6_1.length < 5864062014805 then (spec_l02Children.l0 k1 a0 (x6_1 ++ [(⟨t141, t142, t143⟩ : S25)]) (wrap64 (x7_1 + 1)) a1_0 a1_1 a1_2) else (none)) = some (r1, r2) := by rw [if_pos rfl] at H; exact H
     clear H
     have H := H1
     clear H1
     by_cases c9 : x6_1.length < 5864062014805
     ·rw [if_pos c9] at H
      have LMc9 := Aside0.mk c9
      clear c9
      obtain ⟨y146, hy146⟩ : ∃ y_ : List (S25), y_ = (x6_1 ++ [(⟨t141, t142, t143⟩ : S25)]) := ⟨_, rfl⟩
      replace H : (spec_l02Children.l0 k1 a0 y146 (wrap64 (x7_1 + 1)) a1_0 a1_1 a1_2) = some (r1, r2) := by first | (rw [hy146]; with_reducible exact H) | (have H2_ := (Option.bind_some _ _).symm.trans H; rw [hy146]; with_reducible exact H2_) | (have H2_ := (Option.bind_some _ _).symm.trans H; with_reducible exact H2_) | with_reducible exact H | (rw [hy146]; exact H) | exact H
      have Ny146 := Aside0.mk hy146
      clear hy146
      have H' := Aside0.mk H
      clear H
      have hcz10_0 : wr.cell? ⟨gb137, 0, none⟩ = some (.int .i64 a1_0) := cz_ BK137 0
      have hcz10_1 : wr.cell? ⟨gb137, 1, none⟩ = some (.int .i64 a1_1) := cz_ BK137 1
      have hcz10_2 : wr.cell? ⟨gb137, 2, none⟩ = some (.int .i64 a1_2) := cz_ BK137 2
      have hfz10_0 := fz_ BK137 0
      have hfz10_1 := fz_ BK137 1
      have hfz10_2 := fz_ BK137 2
      go_wp2_with (first | ((with_reducible refine gate_callee (f := 61) rfl ?_); refine ge_ 20 Try.func61 #[.int .i64 a0, .agg #[.int .i64 a1_0, .int .i64 a1_1, .int .i64 a1_2], .int .i64 x7_1] ?_; (with_reducible refine (spec_l01Child.calls k1 a0 a1_0 a1_1 a1_2 x7_1 t141 t142 t143 true _ A7.out).mono ?_); rintro e w11 ⟨rfl, hb⟩; refine ⟨_, rfl, ?_⟩; replace HO_6 := Aside0.mk (Kd.R_below (ra_ HO_6.out) hb); replace BK137 := bb_ BK137 hb; replace HB := bt_ HB hb; (try clear hb); (try clear hb2); (try clear hk); (try clear hi)) | ((with_reducible refine gate_dst (N := 8) rfl ?_); refine bx_ 8 #[.int .i64 0, .int .i64 0, .int .i64 0] 25 ?_; intro gb145 hg w12 hbox hb; have BK145 := Aside0.mk (hbox); have GW145 := bs_ HB hg; have GE145 := bs_ HB hg; have NB137_145 := bm_ BK137 hg; have NB145_137 := bn_ BK137 hg; replace HO_6 := Aside0.mk (Kd.R_below (Kd.R_elderB (ra_ HO_6.out) gb145 (Nat.le_of_eq hg.symm)) hb); replace BK137 := bb_ BK137 hb; replace HB := bt_ HB hb; clear hb hbox hg; have hnb13 := NB145_137.out; have hnc13 := NB137_145.out; have hcz14_0 : w12.cell? ⟨gb145, 0, none⟩ = some (.int .i64 0) := cz_ BK145 0; have hcz14_1 : w12.cell? ⟨gb145, 1, none⟩ = some (.int .i64 0) := cz_ BK145 1; have hcz14_2 : w12.cell? ⟨gb145, 2, none⟩ = some (.int .i64 0) := cz_ BK145 2; have hfz14_0 := fz_ BK145 0; have hfz14_1 := fz_ BK145 1; have hfz14_2 := fz_ BK145 2) | ((with_reducible refine gate_builtin (b := .append) (xs := #[.tmp 25, .tmp 27]) rfl ?_); at_builtin; refine Kd.R_append k25 (w0 := w) w.heap.size rfl (.tmp 25) (.tmp 27) 53 25 (.agg #[(.int .i64 0), (.int .i64 0), (.int .i64 0)]) 24 rfl Try.underlying53 info25 rfl (by decide) (by omega) u6 x6_1 (⟨t141, t142, t143⟩ : S25) [.int .i64 t141, .int .i64 t142, .int .i64 t143] (fun k_ => k_ ≠ gb137 ∧ k_ ≠ gb145) (fun _ => False) rfl (by first | (go_simp; done) | (go_simp; rfl)) ?aP (fun _ hk => hk.elim) ?aF ?aO ?aB ?aS ?aL ?_; (case aP => exact k25_mkM _ _ _ (⟨t141, t142, t143⟩ : S25)); (case aB => exact (bw_ HB).out); (case aF => exact (fun k_ hk => ⟨Kd.freshB (g := gb137) (o := .cells #[.int .i64 a1_0, .int .i64 a1_1, .int .i64 a1_2] 25 (0, 0)) (fl_ BK137 NB137_145).out k_ hk, Kd.freshB (g := gb145) (o := .cells #[.int .i64 t141, .int .i64 t142, .int .i64 t143] 25 (0, 0)) (by (with_reducible repeat first | apply blk_drewN | apply blk_drew | apply blk_alloc); refine blk_put (cs := #[.int .i64 t141, .int .i64 t142, .int .i64 0]) ?_ 2 _ rfl; (with_reducible repeat first | apply blk_drewN | apply blk_drew | apply blk_alloc); refine blk_put (cs := #[.int .i64 t141, .int .i64 0, .int .i64 0]) ?_ 1 _ rfl; (with_reducible repeat first | apply blk_drewN | apply blk_drew | apply blk_alloc); refine blk_put (cs := #[.int .i64 0, .int .i64 0, .int .i64 0]) ?_ 0 _ rfl; (with_reducible repeat first | apply blk_drewN | apply blk_drew | apply blk_alloc); exact BK145.out) k_ hk⟩)); (case aO => exact (by (with_reducible repeat (first | apply Kd.R_alloc | apply Kd.R_drewN | apply Kd.R_drew)); exact Kd.R_mono (Kd.R_far (p := ⟨gb145, 2, none⟩) (Kd.R_far (p := ⟨gb145, 1, none⟩) (Kd.R_far (p := ⟨gb145, 0, none⟩) (Kd.R_mono HO_6.out (fun k_ hk => (⟨hk, hk.2⟩ : _ ∧ k_ ≠ gb145))) (fun _ hk => hk.2) (.int .i64 t141)) (fun _ hk => hk.2) (.int .i64 t142)) (fun _ hk => hk.2) (.int .i64 t143)) (fun _ hk => ⟨hk.1.1, hk.1.2⟩))); (case aS => exact (below_size (bw_ HB).out)); (case aL => have := LMc9.out; omega); intro v147 w15 ho hb hg hat; rw [← Ny146.out] at ho; have n0_ := Aside0.mk (blk_grown (g := gb137) (o := .cells #[.int .i64 a1_0, .int .i64 a1_1, .int .i64 a1_2] 25 (0, 0)) (fl_ BK137 NB137_145).out hg (Kd.R_away HO_6.out (fun _ hk => hk.1))); have n1_ := Aside0.mk (blk_grown (g := gb145) (o := .cells #[.int .i64 t141, .int .i64 t142, .int .i64 t143] 25 (0, 0)) (by (with_reducible repeat first | apply blk_drewN | apply blk_drew | apply blk_alloc); refine blk_put (cs := #[.int .i64 t141, .int .i64 t142, .int .i64 0]) ?_ 2 _ rfl; (with_reducible repeat first | apply blk_drewN | apply blk_drew | apply blk_alloc); refine blk_put (cs := #[.int .i64 t141, .int .i64 0, .int .i64 0]) ?_ 1 _ rfl; (with_reducible repeat first | apply blk_drewN | apply blk_drew | apply blk_alloc); refine blk_put (cs := #[.int .i64 0, .int .i64 0, .int .i64 0]) ?_ 0 _ rfl; (with_reducible repeat first | apply blk_drewN | apply blk_drew | apply blk_alloc); exact BK145.out) hg (Kd.R_away HO_6.out (fun _ hk => hk.2))); have n2_ := Aside0.mk (hb); have n3_ := Aside0.mk (ho); clear BK137; clear BK145; clear HB; clear HO_6; have BK137 := n0_; have BK145 := n1_; have HB := n2_; have HO148 := n3_; clear n0_ n1_ n2_ n3_; clear ho hb hg hat))
      go_roundg k1
      case measure => have := HK1.out; omega
      case rel => exact ⟨(y146), (wrap64 (x7_1 + 1)), (by first | rfl | (simp; done) | (simp [*]; done) | (simp [wrap64]; done)), H', ⟨by have := HK1.out; omega⟩, ⟨by (with_reducible repeat (first | apply Kd.R_alloc | apply Kd.R_drewN | apply Kd.R_drew)); exact Kd.R_mono HO148.out (fun _ hk => hk.1)⟩, bl_ BK137, bw_ HB⟩
     ·rw [if_neg c9] at H
      exact absurd H (by simp)
    ·replace c8 := Bool.eq_false_iff.mpr c8
     subst c8
     have H1 : (some (([] : List (S25)), false)) = some (r1, r2) := by rw [if_neg (show ¬ (false = true) by decide)] at H; exact H
     clear H
     have H := H1
     clear H1
     simp only [Option.some.injEq, Prod.mk.injEq] at H
     obtain ⟨rfl, rfl⟩ := H
     have hcz16_0 : wr.cell? ⟨gb137, 0, none⟩ = some (.int .i64 a1_0) := cz_ BK137 0
     have hcz16_1 : wr.cell? ⟨gb137, 1, none⟩ = some (.int .i64 a1_1) := cz_ BK137 1
     have hcz16_2 : wr.cell? ⟨gb137, 2, none⟩ = some (.int .i64 a1_2) := cz_ BK137 2
     have hfz16_0 := fz_ BK137 0
     have hfz16_1 := fz_ BK137 1
     have hfz16_2 := fz_ BK137 2
     go_wp2_with (first | ((with_reducible refine gate_callee (f := 61) rfl ?_); refine ge_ 20 Try.func61 #[.int .i64 a0, .agg #[.int .i64 a1_0, .int .i64 a1_1, .int .i64 a1_2], .int .i64 x7_1] ?_; (with_reducible refine (spec_l01Child.calls k1 a0 a1_0 a1_1 a1_2 x7_1 t141 t142 t143 false _ A7.out).mono ?_); rintro e w17 ⟨rfl, hb⟩; refine ⟨_, rfl, ?_⟩; replace HO_6 := Aside0.mk (Kd.R_below (ra_ HO_6.out) hb); replace BK137 := bb_ BK137 hb; replace HB := bt_ HB hb; (try clear hb); (try clear hb2); (try clear hk); (try clear hi)) | ((with_reducible refine gate_dst (N := 8) rfl ?_); refine bx_ 8 #[.int .i64 0, .int .i64 0, .int .i64 0] 25 ?_; intro gb145 hg w18 hbox hb; have BK145 := Aside0.mk (hbox); have GW145 := bs_ HB hg; have GE145 := bs_ HB hg; have NB137_145 := bm_ BK137 hg; have NB145_137 := bn_ BK137 hg; replace HO_6 := Aside0.mk (Kd.R_below (Kd.R_elderB (ra_ HO_6.out) gb145 (Nat.le_of_eq hg.symm)) hb); replace BK137 := bb_ BK137 hb; replace HB := bt_ HB hb; clear hb hbox hg; have hnb19 := NB145_137.out; have hnc19 := NB137_145.out; have hcz20_0 : w18.cell? ⟨gb145, 0, none⟩ = some (.int .i64 0) := cz_ BK145 0; have hcz20_1 : w18.cell? ⟨gb145, 1, none⟩ = some (.int .i64 0) := cz_ BK145 1; have hcz20_2 : w18.cell? ⟨gb145, 2, none⟩ = some (.int .i64 0) := cz_ BK145 2; have hfz20_0 := fz_ BK145 0; have hfz20_1 := fz_ BK145 1; have hfz20_2 := fz_ BK145 2))
     go_ret2
     exact ⟨_, by first | rfl | (simp [errW_none, errW_some] <;> rfl) | (simp [*, errW_none, errW_some] <;> rfl), by first | exact Kd.R_nil _ _ _ _ _ | exact Kd.N_nil _ _ _ _ _ | exact Kd.V_nil _ _ _ _ _ | exact Kd.Q_nil _ _ _ _ _ | exact Kd.S_nil _ _ _ _ _, by repeat (first | (with_reducible first | exact HB.out | apply below_alloc | apply pw_below_drewN | apply below_drew1 | refine below_set ?_ GE137.out | refine below_set ?_ GE145.out) | exact HB.out)⟩
   ·rw [if_neg c6] at H
    have c6b0 : decide (x7_1 < a0) = false := decide_eq_false c6
    clear c6
    simp only [Option.some.injEq, Prod.mk.injEq] at H
    obtain ⟨rfl, rfl⟩ := H
    go_wp2
    go_ret2
    exact ⟨_, by first | rfl | (simp [errW_none, errW_some] <;> rfl) | (simp [*, errW_none, errW_some] <;> rfl), by (with_reducible repeat (first | apply Kd.R_alloc | apply Kd.R_drewN | apply Kd.R_drew)); exact Kd.R_mono HO_6.out (fun _ hk => trivial), by repeat (first | (with_reducible first | exact HB.out | apply below_alloc | apply pw_below_drewN | apply below_drew1 | refine below_set ?_ GE137.out) | exact HB.out)⟩
end Go.Proofs.Ytbldceikdajdlaa.QC
