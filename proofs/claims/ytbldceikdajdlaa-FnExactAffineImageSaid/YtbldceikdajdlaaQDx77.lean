import Derived.Test.YtbldceikdajdlaaQDx4
import Derived.Test.YtbldceikdajdlaaQDx56
import Derived.Test.YtbldceikdajdlaaQDx62
import Derived.Test.YtbldceikdajdlaaQDx70
import Derived.Test.YtbldceikdajdlaaQDx76
namespace Go.Proofs.Ytbldceikdajdlaa.QD
open Go.RowKit Go.Proofs.YtbldceikdajdlaaW.PrintWords Go.Proofs.YtbldceikdajdlaaW.PrintLast Go.Proofs.YtbldceikdajdlaaW.PrintMore
attribute [local go_sem] isSome_setCell max2_int min2_int max_two min_two max_three min_three max_four min_four
set_option linter.unusedVariables false
set_option linter.unusedSimpArgs false

/-! ### impl_AffineImage: function 21 -/
def impl_AffineImage.l0 : Nat → Int → Bool → List (S52) → List (S52) → Int → Int → Int → Int → Int → Int → Int → Int → Int → Option (Int × Int × Int × (List (S52)) × Int)
 | 0, _, _, _, _, _, _, _, _, _, _, _, _, _ => none
 | k + 1, x0, x12, x13, x50, x51, x52, x423000, x423001, x423002, x423003, x428000, x428001, x428002 => if x52 < x51 then (if 0 ≤ x52 then (if x52 < (x50.length : Int) then ((impl_moveBall.f k x0 x423000 x423001 x423002 x423003 ((rd_T52 x50 x52).f0.f0) ((rd_T52 x50 x52).f0.f1) ((rd_T52 x50 x52).f0.f2)).bind fun bt433 => (if x12 = true then (if x13.length < 4398046511104 then (impl_AffineImage.l0 k x0 bt433.2.2.2 (x13 ++ [(⟨(⟨bt433.1, bt433.2.1, bt433.2.2.1⟩ : S25), (rd_T52 x50 x52).f1⟩ : S52)]) x50 x51 (wrap64 (x52 + 1)) x423000 x423001 x423002 x423003 x428000 x428001 x428002) else (none)) else (if x13.length < 4398046511104 then (impl_AffineImage.l0 k x0 false (x13 ++ [(⟨(⟨bt433.1, bt433.2.1, bt433.2.2.1⟩ : S25), (rd_T52 x50 x52).f1⟩ : S52)]) x50 x51 (wrap64 (x52 + 1)) x423000 x423001 x423002 x423003 x428000 x428001 x428002) else (none)))) else (none)) else (none)) else (if x12 = true then ((impl_sorted.f k x0 x428000 x428001 x428002 x13).bind fun bt444 => (some (bt444.1, bt444.2.1, bt444.2.2.1, bt444.2.2.2, 0))) else (some (0, 0, 0, ([] : List (S52)), 3)))
def impl_AffineImage.f (k : Nat) (a0 : Int) (a1_0 : Int) (a1_1 : Int) (a1_2 : Int) (l1_3 : List (S52)) (a2 : Int) (a3 : Int) : Option (Int × Int × Int × (List (S52)) × Int) := (impl_IsMeasure.f k a0 a1_0 a1_1 a1_2 l1_3).bind fun t417 => (if t417 = true then (if a2 = 0 then (some (0, 0, 0, ([] : List (S52)), 2)) else ((impl_within.f k 1000 (([a2, a3] : List Int))).bind fun t421 => (if t421 = true then ((impl_moveBall.f k a0 a2 a3 0 1 a1_0 a1_1 a1_2).bind fun bt423 => (impl_AffineImage.l0 k a0 bt423.2.2.2 (([] : List (S52))) l1_3 (l1_3.length : Int) 0 a2 a3 0 1 bt423.1 bt423.2.1 bt423.2.2.1)) else (some (0, 0, 0, ([] : List (S52)), 2))))) else (some (0, 0, 0, ([] : List (S52)), 1)))
set_option maxHeartbeats 8000000 in
set_option maxRecDepth 100000 in
theorem impl_AffineImage.calls (k : Nat) (a0 : Int) (a1_0 : Int) (a1_1 : Int) (a1_2 : Int) (A1_3 : Option Addr) (c1_3 : Nat) (l1_3 : List (S52)) (a2 : Int) (a3 : Int) (r1 : Int) (r2 : Int) (r3 : Int) (r4 : List (S52)) (r5 : Int) (w : World) (hr1_3 : Kd.C k52 w A1_3 l1_3.length l1_3) (hc1_3 : l1_3.length ≤ c1_3) (h : impl_AffineImage.f k a0 a1_0 a1_1 a1_2 l1_3 a2 a3 = some (r1, r2, r3, r4, r5)) :
  Calls Try.prog 21 #[.int .i64 a0, .agg #[.int .i64 a1_0, .int .i64 a1_1, .int .i64 a1_2, .slice A1_3 l1_3.length c1_3], .int .i64 a2, .int .i64 a3] w fun e w' => ∃ v3_ : Value, e = .returned (.tuple #[.agg #[.int .i64 r1, .int .i64 r2, .int .i64 r3, v3_], .int .i64 r5]) ∧ Kd.R k52 52 w' w.heap.size (fun _ => True) v3_ r4 ∧ Below w.heap.size w w' := by
 have hu28 := Try.underlying28
 have hu81 := Try.underlying81
 have hu83 := Try.underlying83
 have hu25 := Try.underlying25
 have hu52 := Try.underlying52
 have HR1_3 := Aside0.mk hr1_3
 have HC1_3 := Aside0.mk hc1_3
 clear hr1_3 hc1_3
 have HB := Aside0.mk (Below.refl w.heap.size w)
 have H : ((impl_IsMeasure.f k a0 a1_0 a1_1 a1_2 l1_3).bind fun t417 => (if t417 = true then (if a2 = 0 then (some (0, 0, 0, ([] : List (S52)), 2)) else ((impl_within.f k 1000 (([a2, a3] : List Int))).bind fun t421 => (if t421 = true then ((impl_moveBall.f k a0 a2 a3 0 1 a1_0 a1_1 a1_2).bind fun bt423 => (impl_AffineImage.l0 k a0 bt423.2.2.2 (([] : List (S52))) l1_3 (l1_3.length : Int) 0 a2 a3 0 1 bt423.1 bt423.2.1 bt423.2.2.1)) else (some (0, 0, 0, ([] : List (S52)), 2))))) else (some (0, 0, 0, ([] : List (S52)), 1)))) = some (r1, r2, r3, r4, r5) := h
 clear h
 replace H := ob_ H
 obtain ⟨t417, A50, H⟩ := H
 have A5 := Aside0.mk A50
 clear A50
 by_cases c6 : t417 = true
 ·subst c6
  have H1 : (if a2 = 0 then (some (0, 0, 0, ([] : List (S52)), 2)) else ((impl_within.f k 1000 (([a2, a3] : List Int))).bind fun t421 => (if t421 = true then ((impl_moveBall.f k a0 a2 a3 0 1 a1_0 a1_1 a1_2).bind fun bt423 => (impl_AffineImage.l0 k a0 bt423.2.2.2 (([] : List (S52))) l1_3 (l1_3.length : Int) 0 a2 a3 0 1 bt423.1 bt423.2.1 bt423.2.2.1)) else (some (0, 0, 0, ([] : List (S52)), 2))))) = some (r1, r2, r3, r4, r5) := by rw [if_pos rfl] at H; exact H
  clear H
  have H := H1
  clear H1
  by_cases c7 : a2 = 0
  ·rw [if_pos c7] at H
   have c7b0 : (a2 == 0) = true := beq_iff_eq.mpr c7
   have c7b1 : (a2 != 0) = false := bne_eq_false_iff_eq.mpr c7
   clear c7
   simp only [Option.some.injEq, Prod.mk.injEq] at H
   obtain ⟨rfl, rfl, rfl, rfl, rfl⟩ := H
   go_enter Try.func21, Try.ntmps21
   go_wp2_with (first | ((with_reducible refine gate_dst (N := 5) rfl ?_); (try (refine gate_guard (by rfl) ?_; dsimp only)); refine bx_ 5 #[.int .i64 a1_0, .int .i64 a1_1, .int .i64 a1_2, .slice A1_3 l1_3.length c1_3] 28 ?_; intro gb415 hg w8 hbox hb; have BK415 := Aside0.mk (hbox); have GW415 := bs_ HB hg; have GE415 := bs_ HB hg; replace HB := bt_ HB hb; clear hb hbox hg) | ((with_reducible refine gate_dst (N := 8) rfl ?_); (try (refine gate_guard (by rfl) ?_; dsimp only)); refine bx_ 8 #[.int .i64 0, .int .i64 0, .int .i64 0, .slice none 0 0] 28 ?_; intro gb416 hg w9 hbox hb; have BK416 := Aside0.mk (hbox); have GW416 := bs_ HB hg; have GE416 := bs_ HB hg; have NB415_416 := bm_ BK415 hg; have NB416_415 := bn_ BK415 hg; replace BK415 := bb_ BK415 hb; replace HB := bt_ HB hb; clear hb hbox hg; have hnb10 := NB415_416.out; have hnc10 := NB416_415.out; obtain ⟨hcz11_0, hcz11_1, hcz11_2, hcz11_3, hfz11_0, hfz11_1, hfz11_2, hfz11_3⟩ := ch4_ BK415) | (refine ge_ 21 Try.func53 #[.int .i64 a0, .agg #[.int .i64 a1_0, .int .i64 a1_1, .int .i64 a1_2, .slice A1_3 l1_3.length c1_3]] ?_; (with_reducible refine (impl_IsMeasure.calls k a0 a1_0 a1_1 a1_2 _ _ l1_3 true _ ?side1 ?side2 A5.out).mono ?_); (case side1 => exact ca_ (Kd.C_below HR1_3.out HB.out)); (case side2 => exact HC1_3.out); rintro e w12 ⟨rfl, hb⟩; refine ⟨_, rfl, ?_⟩; replace BK415 := bb_ BK415 hb; replace BK416 := bb_ BK416 hb; replace HB := bt_ HB hb; (try clear hb); (try clear hb2); (try clear hk); (try clear hi); obtain ⟨hcz13_0, hcz13_1, hcz13_2, hcz13_3, hfz13_0, hfz13_1, hfz13_2, hfz13_3⟩ := ch4_ BK416))
   refine bodyPost_ret (results_ct rfl _ _ gb416 28 #[.int .i64 0, .int .i64 0, .int .i64 0, .slice none 0 0] (0, 0) _ rfl (bp_ BK416).out Try.underlying28 rfl (by kernel_rfl)) rfl ?_
   exact ⟨_, es_, by first | exact Kd.R_nil _ _ _ _ _ | exact Kd.N_nil _ _ _ _ _ | exact Kd.V_nil _ _ _ _ _ | exact Kd.Q_nil _ _ _ _ _ | exact Kd.S_nil _ _ _ _ _, (bw_ HB).out⟩
  ·rw [if_neg c7] at H
   have c7b0 : (a2 == 0) = false := beq_eq_false_iff_ne.mpr c7
   have c7b1 : (a2 != 0) = true := bne_iff_ne.mpr c7
   obtain ⟨y418, hy418⟩ : ∃ y_ : List Int, y_ = (([a2, a3] : List Int)) := ⟨_, rfl⟩
   replace H : ((impl_within.f k 1000 y418).bind fun t421 => (if t421 = true then ((impl_moveBall.f k a0 a2 a3 0 1 a1_0 a1_1 a1_2).bind fun bt423 => (impl_AffineImage.l0 k a0 bt423.2.2.2 (([] : List (S52))) l1_3 (l1_3.length : Int) 0 a2 a3 0 1 bt423.1 bt423.2.1 bt423.2.2.1)) else (some (0, 0, 0, ([] : List (S52)), 2)))) = some (r1, r2, r3, r4, r5) := by first | (rw [hy418]; with_reducible exact H) | (have H2_ := (Option.bind_some _ _).symm.trans H; rw [hy418]; with_reducible exact H2_) | (have H2_ := (Option.bind_some _ _).symm.trans H; with_reducible exact H2_) | with_reducible exact H | (rw [hy418]; exact H) | exact H
   have Ny418 := Aside0.mk hy418
   clear hy418
   replace H := ob_ H
   obtain ⟨t421, A140, H⟩ := H
   have A14 := Aside0.mk A140
   clear A140
   by_cases c15 : t421 = true
   ·subst c15
    have H1 : ((impl_moveBall.f k a0 a2 a3 0 1 a1_0 a1_1 a1_2).bind fun bt423 => (impl_AffineImage.l0 k a0 bt423.2.2.2 (([] : List (S52))) l1_3 (l1_3.length : Int) 0 a2 a3 0 1 bt423.1 bt423.2.1 bt423.2.2.1)) = some (r1, r2, r3, r4, r5) := by rw [if_pos rfl] at H; exact H
    clear H
    have H := H1
    clear H1
    replace H := ob_ H
    obtain ⟨⟨t423, t424, t425, t426⟩, A160, H⟩ := H
    have A16 := Aside0.mk A160
    clear A160
    obtain ⟨y428, hy428⟩ : ∃ y_ : List (S52), y_ = (([] : List (S52))) := ⟨_, rfl⟩
    replace H : (impl_AffineImage.l0 k a0 t426 y428 l1_3 (l1_3.length : Int) 0 a2 a3 0 1 t423 t424 t425) = some (r1, r2, r3, r4, r5) := by first | (rw [hy428]; with_reducible exact H) | (have H2_ := (Option.bind_some _ _).symm.trans H; rw [hy428]; with_reducible exact H2_) | (have H2_ := (Option.bind_some _ _).symm.trans H; with_reducible exact H2_) | with_reducible exact H | (rw [hy428]; exact H) | exact H
    have Ny428 := Aside0.mk hy428
    clear hy428
    have H' := Aside0.mk H
    clear H
    go_enter Try.func21, Try.ntmps21
    go_wp2_with (first | ((with_reducible refine gate_dst (N := 5) rfl ?_); (try (refine gate_guard (by rfl) ?_; dsimp only)); refine bx_ 5 #[.int .i64 a1_0, .int .i64 a1_1, .int .i64 a1_2, .slice A1_3 l1_3.length c1_3] 28 ?_; intro gb415 hg w17 hbox hb; have BK415 := Aside0.mk (hbox); have GW415 := bs_ HB hg; have GE415 := bs_ HB hg; replace HB := bt_ HB hb; clear hb hbox hg) | ((with_reducible refine gate_dst (N := 8) rfl ?_); (try (refine gate_guard (by rfl) ?_; dsimp only)); refine bx_ 8 #[.int .i64 0, .int .i64 0, .int .i64 0, .slice none 0 0] 28 ?_; intro gb416 hg w18 hbox hb; have BK416 := Aside0.mk (hbox); have GW416 := bs_ HB hg; have GE416 := bs_ HB hg; have NB415_416 := bm_ BK415 hg; have NB416_415 := bn_ BK415 hg; replace BK415 := bb_ BK415 hb; replace HB := bt_ HB hb; clear hb hbox hg; have hnb19 := NB415_416.out; have hnc19 := NB416_415.out; obtain ⟨hcz20_0, hcz20_1, hcz20_2, hcz20_3, hfz20_0, hfz20_1, hfz20_2, hfz20_3⟩ := ch4_ BK415) | (refine ge_ 21 Try.func53 #[.int .i64 a0, .agg #[.int .i64 a1_0, .int .i64 a1_1, .int .i64 a1_2, .slice A1_3 l1_3.length c1_3]] ?_; (with_reducible refine (impl_IsMeasure.calls k a0 a1_0 a1_1 a1_2 _ _ l1_3 true _ ?side1 ?side2 A5.out).mono ?_); (case side1 => exact ca_ (Kd.C_below HR1_3.out HB.out)); (case side2 => exact HC1_3.out); rintro e w21 ⟨rfl, hb⟩; refine ⟨_, rfl, ?_⟩; replace BK415 := bb_ BK415 hb; replace BK416 := bb_ BK416 hb; replace HB := bt_ HB hb; (try clear hb); (try clear hb2); (try clear hk); (try clear hi)) | ((with_reducible refine gate_dst (N := 30) rfl ?_); (try (refine gate_guard (by rfl) ?_; dsimp only)); refine Kd.R_lit (Kd.int .i64) _ 2 ?hg (N := 30) ?hd (xs := ([a2, a3] : List Int)) (inner := [.int .i64 a2, .int .i64 a3]) (ok := fun _ => True) (okp := fun _ => True) ?hr ?hp (fun _ hk => hk) trivial (Below.refl _ _) (Nat.le_refl _) (by simp) ?_; (case hd => rfl); (case hg => rfl); (case hr => first | (go_simp; done) | (go_simp; rfl)); (case hp => exact (Reps.one (show Kd.M (Kd.int .i64) _ _ _ a2 [.int .i64 a2] from rfl) (Reps.one (show Kd.M (Kd.int .i64) _ _ _ a3 [.int .i64 a3] from rfl) (Reps.none _ _)))); intro v419 w22 ho23 hb hg_ hnew_; clear hg_ hnew_; (first | rw [← Ny418.out] at ho23 | (simp only [Int.reduceToNat] at ho23; rw [← Ny418.out] at ho23)); have HO420 := Aside0.mk (Kd.R_lower ho23 (below_size (bw_ HB).out)); replace BK415 := bb_ BK415 hb; replace BK416 := bb_ BK416 hb; replace HB := bt_ HB hb; clear hb ho23; obtain ⟨Ao24, co24, eo24⟩ := Kd.R_slice HO420.out; subst eo24) | (go_at_call 54; (with_reducible refine (impl_within.calls k 1000 _ _ y418 true _ ?side1 ?side2 A14.out).mono ?_); (case side1 => exact ca_ (Kd.R_reads' HO420.out).2.2); (case side2 => exact (Kd.R_reads' HO420.out).2.1); rintro e w' ⟨rfl, ⟨nd, rfl⟩⟩; (try (rw [drewN_self w22]; generalize hq_ : World.drewN w22 _ = w22; have n0_ : Aside0 (Kd.R (Kd.int .i64) 2 w22 w.heap.size (fun _ => True) (.slice Ao24 y418.length co24) y418) := ⟨by rw [← hq_]; exact (ra_ HO420.out)⟩; have n1_ : Aside0 (w22.heap[gb415]? = some (.cells #[.int .i64 a1_0, .int .i64 a1_1, .int .i64 a1_2, .slice A1_3 l1_3.length c1_3] 28 (0, 0))) := ⟨by rw [← hq_]; exact (bl_ BK415).out⟩; have n2_ : Aside0 (w22.heap[gb416]? = some (.cells #[.int .i64 0, .int .i64 0, .int .i64 0, .slice none 0 0] 28 (0, 0))) := ⟨by rw [← hq_]; exact (bl_ BK416).out⟩; have n3_ : Aside0 (Below w.heap.size w w22) := ⟨by rw [← hq_]; exact (bw_ HB).out⟩; clear HO420 BK415 BK416 HB hq_; have HO420 := n0_; have BK415 := n1_; have BK416 := n2_; have HB := n3_; clear n0_ n1_ n2_ n3_))) | ((with_reducible refine gate_dst (N := 10) rfl ?_); (try (refine gate_guard (by rfl) ?_; dsimp only)); refine bx_ 10 #[.int .i64 0, .int .i64 0, .int .i64 0, .int .i64 0] 83 ?_; intro gb422 hg w25 hbox hb; have BK422 := Aside0.mk (hbox); have GW422 := bs_ HB hg; have GE422 := bs_ HB hg; have NB415_422 := bm_ BK415 hg; have NB422_415 := bn_ BK415 hg; have NB416_422 := bm_ BK416 hg; have NB422_416 := bn_ BK416 hg; replace HO420 := Aside0.mk (Kd.R_below (ra_ HO420.out) hb); replace BK415 := bb_ BK415 hb; replace BK416 := bb_ BK416 hb; replace HB := bt_ HB hb; clear hb hbox hg; have hnb26 := NB422_415.out; have hnc26 := NB415_422.out; have hnb27 := NB422_416.out; have hnc27 := NB416_422.out; obtain ⟨hcz28_0, hcz28_1, hcz28_2, hcz28_3, hfz28_0, hfz28_1, hfz28_2, hfz28_3⟩ := ch4_ BK422; obtain ⟨hcz29_0, hcz29_1, hcz29_2, hcz29_3, hfz29_0, hfz29_1, hfz29_2, hfz29_3⟩ := ch4_ BK415) | (refine ge_ 45 Try.func55 #[.int .i64 a0, .agg #[.int .i64 a2, .int .i64 a3, .int .i64 0, .int .i64 1], .agg #[.int .i64 a1_0, .int .i64 a1_1, .int .i64 a1_2]] ?_; (with_reducible refine (impl_moveBall.calls k a0 a2 a3 0 1 a1_0 a1_1 a1_2 t423 t424 t425 t426 _ A16.out).mono ?_); rintro e w30 ⟨rfl, hb⟩; refine ⟨_, rfl, ?_⟩; replace HO420 := Aside0.mk (Kd.R_below (ra_ (rs4_ HO420.out BK422.out)) hb); replace BK415 := fb_ BK415 NB415_422 hb; replace BK416 := fb_ BK416 NB416_422 hb; replace BK422 := Aside0.mk (blk_below (g := gb422) (o := .cells #[.int .i64 a2, .int .i64 a3, .int .i64 0, .int .i64 1] 83 (0, 0)) (bp_ BK422).out hb); replace HB := bt_ HB hb; (try clear hb); (try clear hb2); (try clear hk); (try clear hi)) | ((with_reducible refine gate_dst (N := 11) rfl ?_); (try (refine gate_guard (by rfl) ?_; dsimp only)); refine bx_ 11 #[.int .i64 0, .int .i64 0, .int .i64 0] 25 ?_; intro gb427 hg w31 hbox hb; have BK427 := Aside0.mk (hbox); have GW427 := bs_ HB hg; have GE427 := bs_ HB hg; have NB415_427 := bm_ BK415 hg; have NB427_415 := bn_ BK415 hg; have NB416_427 := bm_ BK416 hg; have NB427_416 := bn_ BK416 hg; have NB422_427 := bm_ BK422 hg; have NB427_422 := bn_ BK422 hg; replace HO420 := Aside0.mk (Kd.R_below (ra_ HO420.out) hb); replace BK415 := bb_ BK415 hb; replace BK416 := bb_ BK416 hb; replace BK422 := bb_ BK422 hb; replace HB := bt_ HB hb; clear hb hbox hg; have hnb32 := NB427_415.out; have hnc32 := NB415_427.out; have hnb33 := NB427_416.out; have hnc33 := NB416_427.out; have hnb34 := NB427_422.out; have hnc34 := NB422_427.out; obtain ⟨hcz35_0, hcz35_1, hcz35_2, hfz35_0, hfz35_1, hfz35_2⟩ := ch3_ BK427) | ((with_reducible refine gate_dst (N := 48) rfl ?_); (try (refine gate_guard (by rfl) ?_; dsimp only)); refine Kd.R_lit k52 _ 52 ?hg (N := 48) ?hd (xs := ([] : List (S52))) (inner := []) (ok := fun _ => True) (okp := fun _ => True) ?hr ?hp (fun _ hk => hk) trivial (Below.refl _ _) (Nat.le_refl _) (by simp) ?_; (case hd => rfl); (case hg => rfl); (case hr => first | (go_simp; done) | (go_simp; rfl)); (case hp => exact (Reps.none _ _)); intro v429 w36 ho37 hb hg_ hnew_; clear hg_ hnew_; (first | rw [← Ny428.out] at ho37 | (simp only [Int.reduceToNat] at ho37; rw [← Ny428.out] at ho37)); have HO430 := Aside0.mk (Kd.R_lower ho37 (below_size (bw_ HB).out)); replace HO420 := Aside0.mk (Kd.R_below (ra_ (rs3_ HO420.out BK427.out)) hb); replace BK415 := fb_ BK415 NB415_427 hb; replace BK416 := fb_ BK416 NB416_427 hb; replace BK422 := fb_ BK422 NB422_427 hb; replace BK427 := Aside0.mk (blk_below (g := gb427) (o := .cells #[.int .i64 t423, .int .i64 t424, .int .i64 t425] 25 (0, 0)) (bp_ BK427).out hb); replace HB := bt_ HB hb; clear hb ho37; obtain ⟨hcz38_0, hcz38_1, hcz38_2, hcz38_3, hfz38_0, hfz38_1, hfz38_2, hfz38_3⟩ := ch4_ BK415))
    go_loopg [12, 13, 52] k (fun kq v12 v13 v52 w' => ∃ (x12_1 : Bool) (x13_1 : List (S52)) (x52_1 : Int), v12 = .bool x12_1 ∧ v52 = .int .i64 x52_1 ∧ Aside0 (impl_AffineImage.l0 kq a0 x12_1 x13_1 l1_3 (l1_3.length : Int) x52_1 a2 a3 0 1 t423 t424 t425 = some (r1, r2, r3, r4, r5)) ∧ Aside0 (kq ≤ k) ∧ Aside0 (Kd.R k52 52 w' w.heap.size (fun _ => True) v13 x13_1) ∧ Aside0 (w'.heap[gb415]? = some (.cells #[.int .i64 a1_0, .int .i64 a1_1, .int .i64 a1_2, (.slice A1_3 l1_3.length c1_3)] 28 (0, 0))) ∧ Aside0 (w'.heap[gb416]? = some (.cells #[.int .i64 0, .int .i64 0, .int .i64 0, (.slice none 0 0)] 28 (0, 0))) ∧ Aside0 (w'.heap[gb422]? = some (.cells #[.int .i64 a2, .int .i64 a3, .int .i64 0, .int .i64 1] 83 (0, 0))) ∧ Aside0 (w'.heap[gb427]? = some (.cells #[.int .i64 t423, .int .i64 t424, .int .i64 t425] 25 (0, 0))) ∧ Aside0 (Below w.heap.size w w'))
    case atStart => exact ⟨(t426), (y428), (0), en_, en_, H', ⟨Nat.le_refl _⟩, ⟨by (with_reducible repeat (first | apply Kd.R_alloc | apply Kd.R_drewN | apply Kd.R_drew)); exact HO430.out⟩, bl_ BK415, bl_ BK416, bl_ BK422, bl_ BK427, bw_ HB⟩
    case round =>
     clear H'
     try clear c1
     try clear c2
     try clear p2
     try clear c3
     try clear c5
     try clear c6
     try clear c7
     try clear c7b0
     try clear c7b1
     try clear c10
     try clear c15
     try clear c19
     try clear c21
     try clear c26
     try clear c27
     try clear c32
     try clear c33
     try clear c34
     try clear hcz11_0 hcz11_1 hcz11_2 hcz11_3
     try clear hcz13_0 hcz13_1 hcz13_2 hcz13_3
     try clear hcz20_0 hcz20_1 hcz20_2 hcz20_3
     try clear hcz28_0 hcz28_1 hcz28_2 hcz28_3
     try clear hcz29_0 hcz29_1 hcz29_2 hcz29_3
     try clear hcz35_0 hcz35_1 hcz35_2
     try clear hcz38_0 hcz38_1 hcz38_2 hcz38_3
     try clear hfz11_0 hfz11_1 hfz11_2 hfz11_3
     try clear hfz13_0 hfz13_1 hfz13_2 hfz13_3
     try clear hfz20_0 hfz20_1 hfz20_2 hfz20_3
     try clear hfz28_0 hfz28_1 hfz28_2 hfz28_3
     try clear hfz29_0 hfz29_1 hfz29_2 hfz29_3
     try clear hfz35_0 hfz35_1 hfz35_2
     try clear hfz38_0 hfz38_1 hfz38_2 hfz38_3
     obtain ⟨x12_1, x13_1, x52_1, rfl, rfl, HA, HK1, HO_13, BK415, BK416, BK422, BK427, HB⟩ := hrel
     cases gk with
     | zero => exact absurd HA.out (by simp [impl_AffineImage.l0])
     | succ k1 =>
      have H := HA.out
      clear HA
      simp only [impl_AffineImage.l0] at H
      by_cases c39 : x52_1 < (l1_3.length : Int)
      ·rw [if_pos c39] at H
       have c39b0 : decide (x52_1 < (l1_3.length : Int)) = true := decide_eq_true c39
       clear c39
       by_cases c40 : 0 ≤ x52_1
       ·rw [if_pos c40] at H
        have c40b0 : decide (0 ≤ x52_1) = true := decide_eq_true c40
        clear c40
        by_cases c41 : x52_1 < (l1_3.length : Int)
        ·rw [if_pos c41] at H
         have c41b0 : decide (x52_1 < (l1_3.length : Int)) = true := decide_eq_true c41
         clear c41
         replace H := ob_ H
         obtain ⟨⟨t433, t434, t435, t436⟩, A420, H⟩ := H
         have A42 := Aside0.mk A420
         clear A420
         by_cases c43 : x12_1 = true
         ·subst c43
          have H1 : (if x13_1.length < 4398046511104 then (impl_AffineImage.l0 k1 a0 t436 (x13_1 ++ [(⟨(⟨t433, t434, t435⟩ : S25), (rd_T52 l1_3 x52_1).f1⟩ : S52)]) l1_3 (l1_3.length : Int) (wrap64 (x52_1 + 1)) a2 a3 0 1 t423 t424 t425) else (none)) = some (r1, r2, r3, r4, r5) := by rw [if_pos rfl] at H; exact H
          clear H
          have H := H1
          clear H1
          by_cases c44 : x13_1.length < 4398046511104
          ·rw [if_pos c44] at H
           have LMc44 := Aside0.mk c44
           clear c44
           obtain ⟨y438, hy438⟩ : ∃ y_ : List (S52), y_ = (x13_1 ++ [(⟨(⟨t433, t434, t435⟩ : S25), (rd_T52 l1_3 x52_1).f1⟩ : S52)]) := ⟨_, rfl⟩
           replace H : (impl_AffineImage.l0 k1 a0 t436 y438 l1_3 (l1_3.length : Int) (wrap64 (x52_1 + 1)) a2 a3 0 1 t423 t424 t425) = some (r1, r2, r3, r4, r5) := by first | (rw [hy438]; with_reducible exact H) | (have H2_ := (Option.bind_some _ _).symm.trans H; rw [hy438]; with_reducible exact H2_) | (have H2_ := (Option.bind_some _ _).symm.trans H; with_reducible exact H2_) | with_reducible exact H | (rw [hy438]; exact H) | exact H
           have Ny438 := Aside0.mk hy438
           clear hy438
           have H' := Aside0.mk H
           clear H
           have p431 : 0 ≤ (x52_1 : Int) := od_
           have q431 : x52_1 < (l1_3.length : Int) := od_
           obtain ⟨ad431, e431, hx431_0, hx431_1, hx431_2, hx431_3⟩ := at_T52 HR1_3.out x52_1 p431 q431
           cases e431
           replace hx431_0 := clTr HB.out hx431_0
           replace hx431_1 := clTr HB.out hx431_1
           replace hx431_2 := clTr HB.out hx431_2
           replace hx431_3 := clTr HB.out hx431_3
           replace p431 := eq_true p431
           replace q431 := eq_true q431
           go_wp2_with (first | ((with_reducible refine gate_dst (N := 15) rfl ?_); (try (refine gate_guard (by rfl) ?_; dsimp only)); refine bx_ 15 #[.int .i64 0, .int .i64 0, .int .i64 0, .int .i64 0] 52 ?_; intro gb432 hg w45 hbox hb; have BK432 := Aside0.mk (hbox); have GW432 := bs_ HB hg; have GE432 := bs_ HB hg; have NB415_432 := bm_ BK415 hg; have NB432_415 := bn_ BK415 hg; have NB416_432 := bm_ BK416 hg; have NB432_416 := bn_ BK416 hg; have NB422_432 := bm_ BK422 hg; have NB432_422 := bn_ BK422 hg; have NB427_432 := bm_ BK427 hg; have NB432_427 := bn_ BK427 hg; replace HO_13 := Aside0.mk (Kd.R_below (Kd.R_elderB (ra_ HO_13.out) gb432 (Nat.le_of_eq hg.symm)) hb); replace BK415 := bb_ BK415 hb; replace BK416 := bb_ BK416 hb; replace BK422 := bb_ BK422 hb; replace BK427 := bb_ BK427 hb; replace HB := bt_ HB hb; clear hb hbox hg; have hnb46 := NB432_415.out; have hnc46 := NB415_432.out; have hnb47 := NB432_416.out; have hnc47 := NB416_432.out; have hnb48 := NB432_422.out; have hnc48 := NB422_432.out; have hnb49 := NB432_427.out; have hnc49 := NB427_432.out; obtain ⟨hcz50_0, hcz50_1, hcz50_2, hcz50_3, hfz50_0, hfz50_1, hfz50_2, hfz50_3⟩ := ch4_ BK432; have hnb51 := NB422_415.out; have hnc51 := NB415_422.out; have hnb52 := NB422_416.out; have hnc52 := NB416_422.out; have hnb53 := NB422_427.out; have hnc53 := NB427_422.out; obtain ⟨hcz54_0, hcz54_1, hcz54_2, hcz54_3, hfz54_0, hfz54_1, hfz54_2, hfz54_3⟩ := ch4_ BK422) | (refine ge_ 61 Try.func55 #[.int .i64 a0, .agg #[.int .i64 a2, .int .i64 a3, .int .i64 0, .int .i64 1], .agg #[.int .i64 ((rd_T52 l1_3 x52_1).f0.f0), .int .i64 ((rd_T52 l1_3 x52_1).f0.f1), .int .i64 ((rd_T52 l1_3 x52_1).f0.f2)]] ?_; (with_reducible refine (impl_moveBall.calls k1 a0 a2 a3 0 1 ((rd_T52 l1_3 x52_1).f0.f0) ((rd_T52 l1_3 x52_1).f0.f1) ((rd_T52 l1_3 x52_1).f0.f2) t433 t434 t435 t436 _ A42.out).mono ?_); rintro e w55 ⟨rfl, hb⟩; refine ⟨_, rfl, ?_⟩; replace HO_13 := Aside0.mk (Kd.R_below (ra_ (Kd.R_mono (Kd.R_far (p := ⟨gb432, 3, none⟩) (Kd.R_far (p := ⟨gb432, 2, none⟩) (Kd.R_far (p := ⟨gb432, 1, none⟩) (Kd.R_far (p := ⟨gb432, 0, none⟩) (Kd.R_mono HO_13.out (fun k_ hk => (⟨hk, hk.2⟩ : _ ∧ k_ ≠ gb432))) (fun _ hk => hk.2) (.int .i64 ((rd_T52 l1_3 x52_1).f0.f0))) (fun _ hk => hk.2) (.int .i64 ((rd_T52 l1_3 x52_1).f0.f1))) (fun _ hk => hk.2) (.int .i64 ((rd_T52 l1_3 x52_1).f0.f2))) (fun _ hk => hk.2) (.int .i64 ((rd_T52 l1_3 x52_1).f1))) (fun _ h_ => h_.1))) hb); replace BK415 := fb_ BK415 NB415_432 hb; replace BK416 := fb_ BK416 NB416_432 hb; replace BK422 := fb_ BK422 NB422_432 hb; replace BK427 := fb_ BK427 NB427_432 hb; replace BK432 := Aside0.mk (blk_below (g := gb432) (o := .cells #[.int .i64 ((rd_T52 l1_3 x52_1).f0.f0), .int .i64 ((rd_T52 l1_3 x52_1).f0.f1), .int .i64 ((rd_T52 l1_3 x52_1).f0.f2), .int .i64 ((rd_T52 l1_3 x52_1).f1)] 52 (0, 0)) (bp_ BK432).out hb); replace HB := bt_ HB hb; (try clear hb); (try clear hb2); (try clear hk); (try clear hi)) | ((with_reducible refine gate_dst (N := 16) rfl ?_); (try (refine gate_guard (by rfl) ?_; dsimp only)); refine bx_ 16 #[.int .i64 0, .int .i64 0, .int .i64 0] 25 ?_; intro gb437 hg w56 hbox hb; have BK437 := Aside0.mk (hbox); have GW437 := bs_ HB hg; have GE437 := bs_ HB hg; have NB415_437 := bm_ BK415 hg; have NB437_415 := bn_ BK415 hg; have NB416_437 := bm_ BK416 hg; have NB437_416 := bn_ BK416 hg; have NB422_437 := bm_ BK422 hg; have NB437_422 := bn_ BK422 hg; have NB427_437 := bm_ BK427 hg; have NB437_427 := bn_ BK427 hg; have NB432_437 := bm_ BK432 hg; have NB437_432 := bn_ BK432 hg; replace HO_13 := Aside0.mk (Kd.R_below (ra_ HO_13.out) hb); replace BK415 := bb_ BK415 hb; replace BK416 := bb_ BK416 hb; replace BK422 := bb_ BK422 hb; replace BK427 := bb_ BK427 hb; replace BK432 := bb_ BK432 hb; replace HB := bt_ HB hb; clear hb hbox hg; have hnb57 := NB437_415.out; have hnc57 := NB415_437.out; have hnb58 := NB437_416.out; have hnc58 := NB416_437.out; have hnb59 := NB437_422.out; have hnc59 := NB422_437.out; have hnb60 := NB437_427.out; have hnc60 := NB427_437.out; have hnb61 := NB437_432.out; have hnc61 := NB432_437.out; obtain ⟨hcz62_0, hcz62_1, hcz62_2, hfz62_0, hfz62_1, hfz62_2⟩ := ch3_ BK437; obtain ⟨hcz63_0, hcz63_1, hcz63_2, hcz63_3, hfz63_0, hfz63_1, hfz63_2, hfz63_3⟩ := ch4_ BK432) | ((with_reducible refine gate_builtin (b := .append) (xs := #[.tmp 68, .tmp 73]) rfl ?_); (try (refine gate_guard (by rfl) ?_; dsimp only)); at_builtin; refine Kd.R_append k52 (w0 := w) w.heap.size rfl (.tmp 68) (.tmp 73) 26 52 (.agg #[(.int .i64 0), (.int .i64 0), (.int .i64 0), (.int .i64 0)]) 32 rfl Try.underlying26 info52 rfl (by decide) (by omega) u13 x13_1 (⟨(⟨t433, t434, t435⟩ : S25), (rd_T52 l1_3 x52_1).f1⟩ : S52) [.int .i64 t433, .int .i64 t434, .int .i64 t435, .int .i64 ((rd_T52 l1_3 x52_1).f1)] (fun k_ => k_ ≠ gb432) (fun _ => False) rfl (by first | (go_simp; done) | (go_simp; rfl)) ?aP (fun _ hk => hk.elim) ?aF ?aO ?aB ?aS ?aL ?_; (case aP => exact k52_mkM _ _ _ (⟨(⟨t433, t434, t435⟩ : S25), (rd_T52 l1_3 x52_1).f1⟩ : S52)); (case aB => exact (bw_ HB).out); (case aF => exact (fun k_ hk => Kd.freshB (g := gb432) (o := .cells #[.int .i64 ((rd_T52 l1_3 x52_1).f0.f0), .int .i64 ((rd_T52 l1_3 x52_1).f0.f1), .int .i64 ((rd_T52 l1_3 x52_1).f0.f2), .int .i64 ((rd_T52 l1_3 x52_1).f1)] 52 (0, 0)) (fl_ BK432 NB432_437).out k_ hk)); (case aO => exact (by (with_reducible repeat (first | apply Kd.R_alloc | apply Kd.R_drewN | apply Kd.R_drew)); exact Kd.R_mono (Kd.R_far (p := ⟨gb437, 2, none⟩) (Kd.R_far (p := ⟨gb437, 1, none⟩) (Kd.R_far (p := ⟨gb437, 0, none⟩) (Kd.R_types HO_13.out BK437.out (by decide)) (fun _ hk => hk.2) (.int .i64 t433)) (fun _ hk => hk.2) (.int .i64 t434)) (fun _ hk => hk.2) (.int .i64 t435)) (fun _ hk => hk.1.2))); (case aS => exact (below_size (bw_ HB).out)); (case aL => have := LMc44.out; omega); intro v439 w64 ho hb hg hat; rw [← Ny438.out] at ho; have n0_ := Aside0.mk (blk_grown (g := gb415) (o := .cells #[.int .i64 a1_0, .int .i64 a1_1, .int .i64 a1_2, .slice (some ad431) l1_3.length c1_3] 28 (0, 0)) (fl_ BK415 NB415_437).out hg (Kd.R_ne HO_13.out BK415.out (by decide))); have n1_ := Aside0.mk (blk_grown (g := gb416) (o := .cells #[.int .i64 0, .int .i64 0, .int .i64 0, .slice none 0 0] 28 (0, 0)) (fl_ BK416 NB416_437).out hg (Kd.R_ne HO_13.out BK416.out (by decide))); have n2_ := Aside0.mk (blk_grown (g := gb422) (o := .cells #[.int .i64 a2, .int .i64 a3, .int .i64 0, .int .i64 1] 83 (0, 0)) (fl_ BK422 NB422_437).out hg (Kd.R_ne HO_13.out BK422.out (by decide))); have n3_ := Aside0.mk (blk_grown (g := gb427) (o := .cells #[.int .i64 t423, .int .i64 t424, .int .i64 t425] 25 (0, 0)) (fl_ BK427 NB427_437).out hg (Kd.R_ne HO_13.out BK427.out (by decide))); have n4_ := Aside0.mk (blk_grown (g := gb432) (o := .cells #[.int .i64 ((rd_T52 l1_3 x52_1).f0.f0), .int .i64 ((rd_T52 l1_3 x52_1).f0.f1), .int .i64 ((rd_T52 l1_3 x52_1).f0.f2), .int .i64 ((rd_T52 l1_3 x52_1).f1)] 52 (0, 0)) (fl_ BK432 NB432_437).out hg (Kd.R_away HO_13.out (fun _ hk => hk.2))); have n5_ := Aside0.mk (blk_grown (g := gb437) (o := .cells #[.int .i64 t433, .int .i64 t434, .int .i64 t435] 25 (0, 0)) (bp_ BK437).out hg (Kd.R_ne HO_13.out BK437.out (by decide))); have n6_ := Aside0.mk (hb); have n7_ := Aside0.mk (ho); clear BK415; clear BK416; clear BK422; clear BK427; clear BK432; clear BK437; clear HB; clear HO_13; have BK415 := n0_; have BK416 := n1_; have BK422 := n2_; have BK427 := n3_; have BK432 := n4_; have BK437 := n5_; have HB := n6_; have HO440 := n7_; clear n0_ n1_ n2_ n3_ n4_ n5_ n6_ n7_; clear ho hb hg hat))
           go_roundg k1
           case measure => have := HK1.out; omega
           case rel => exact ⟨(t436), (y438), (wrap64 (x52_1 + 1)), en_, en_, H', ⟨by have := HK1.out; omega⟩, ⟨by (with_reducible repeat (first | apply Kd.R_alloc | apply Kd.R_drewN | apply Kd.R_drew)); exact Kd.R_mono HO440.out (fun _ hk => trivial)⟩, bl_ BK415, bl_ BK416, bl_ BK422, bl_ BK427, bw_ HB⟩
          ·rw [if_neg c44] at H
           exact absurd H (by simp)
         ·replace c43 := Bool.eq_false_iff.mpr c43
          subst c43
          have H1 : (if x13_1.length < 4398046511104 then (impl_AffineImage.l0 k1 a0 false (x13_1 ++ [(⟨(⟨t433, t434, t435⟩ : S25), (rd_T52 l1_3 x52_1).f1⟩ : S52)]) l1_3 (l1_3.length : Int) (wrap64 (x52_1 + 1)) a2 a3 0 1 t423 t424 t425) else (none)) = some (r1, r2, r3, r4, r5) := by rw [if_neg (show ¬ (false = true) by decide)] at H; exact H
          clear H
          have H := H1
          clear H1
          by_cases c65 : x13_1.length < 4398046511104
          ·rw [if_pos c65] at H
           have LMc65 := Aside0.mk c65
           clear c65
           obtain ⟨y441, hy441⟩ : ∃ y_ : List (S52), y_ = (x13_1 ++ [(⟨(⟨t433, t434, t435⟩ : S25), (rd_T52 l1_3 x52_1).f1⟩ : S52)]) := ⟨_, rfl⟩
           replace H : (impl_AffineImage.l0 k1 a0 false y441 l1_3 (l1_3.length : Int) (wrap64 (x52_1 + 1)) a2 a3 0 1 t423 t424 t425) = some (r1, r2, r3, r4, r5) := by first | (rw [hy441]; with_reducible exact H) | (have H2_ := (Option.bind_some _ _).symm.trans H; rw [hy441]; with_reducible exact H2_) | (have H2_ := (Option.bind_some _ _).symm.trans H; with_reducible exact H2_) | with_reducible exact H | (rw [hy441]; exact H) | exact H
           have Ny441 := Aside0.mk hy441
           clear hy441
           have H' := Aside0.mk H
           clear H
           have p431 : 0 ≤ (x52_1 : Int) := od_
           have q431 : x52_1 < (l1_3.length : Int) := od_
           obtain ⟨ad431, e431, hx431_0, hx431_1, hx431_2, hx431_3⟩ := at_T52 HR1_3.out x52_1 p431 q431
           cases e431
           replace hx431_0 := clTr HB.out hx431_0
           replace hx431_1 := clTr HB.out hx431_1
           replace hx431_2 := clTr HB.out hx431_2
           replace hx431_3 := clTr HB.out hx431_3
           replace p431 := eq_true p431
           replace q431 := eq_true q431
           go_wp2_with (first | ((with_reducible refine gate_dst (N := 15) rfl ?_); (try (refine gate_guard (by rfl) ?_; dsimp only)); refine bx_ 15 #[.int .i64 0, .int .i64 0, .int .i64 0, .int .i64 0] 52 ?_; intro gb432 hg w66 hbox hb; have BK432 := Aside0.mk (hbox); have GW432 := bs_ HB hg; have GE432 := bs_ HB hg; have NB415_432 := bm_ BK415 hg; have NB432_415 := bn_ BK415 hg; have NB416_432 := bm_ BK416 hg; have NB432_416 := bn_ BK416 hg; have NB422_432 := bm_ BK422 hg; have NB432_422 := bn_ BK422 hg; have NB427_432 := bm_ BK427 hg; have NB432_427 := bn_ BK427 hg; replace HO_13 := Aside0.mk (Kd.R_below (Kd.R_elderB (ra_ HO_13.out) gb432 (Nat.le_of_eq hg.symm)) hb); replace BK415 := bb_ BK415 hb; replace BK416 := bb_ BK416 hb; replace BK422 := bb_ BK422 hb; replace BK427 := bb_ BK427 hb; replace HB := bt_ HB hb; clear hb hbox hg; have hnb67 := NB432_415.out; have hnc67 := NB415_432.out; have hnb68 := NB432_416.out; have hnc68 := NB416_432.out; have hnb69 := NB432_422.out; have hnc69 := NB422_432.out; have hnb70 := NB432_427.out; have hnc70 := NB427_432.out; obtain ⟨hcz71_0, hcz71_1, hcz71_2, hcz71_3, hfz71_0, hfz71_1, hfz71_2, hfz71_3⟩ := ch4_ BK432; have hnb72 := NB422_415.out; have hnc72 := NB415_422.out; have hnb73 := NB422_416.out; have hnc73 := NB416_422.out; have hnb74 := NB422_427.out; have hnc74 := NB427_422.out; obtain ⟨hcz75_0, hcz75_1, hcz75_2, hcz75_3, hfz75_0, hfz75_1, hfz75_2, hfz75_3⟩ := ch4_ BK422) | (refine ge_ 61 Try.func55 #[.int .i64 a0, .agg #[.int .i64 a2, .int .i64 a3, .int .i64 0, .int .i64 1], .agg #[.int .i64 ((rd_T52 l1_3 x52_1).f0.f0), .int .i64 ((rd_T52 l1_3 x52_1).f0.f1), .int .i64 ((rd_T52 l1_3 x52_1).f0.f2)]] ?_; (with_reducible refine (impl_moveBall.calls k1 a0 a2 a3 0 1 ((rd_T52 l1_3 x52_1).f0.f0) ((rd_T52 l1_3 x52_1).f0.f1) ((rd_T52 l1_3 x52_1).f0.f2) t433 t434 t435 t436 _ A42.out).mono ?_); rintro e w76 ⟨rfl, hb⟩; refine ⟨_, rfl, ?_⟩; replace HO_13 := Aside0.mk (Kd.R_below (ra_ (Kd.R_mono (Kd.R_far (p := ⟨gb432, 3, none⟩) (Kd.R_far (p := ⟨gb432, 2, none⟩) (Kd.R_far (p := ⟨gb432, 1, none⟩) (Kd.R_far (p := ⟨gb432, 0, none⟩) (Kd.R_mono HO_13.out (fun k_ hk => (⟨hk, hk.2⟩ : _ ∧ k_ ≠ gb432))) (fun _ hk => hk.2) (.int .i64 ((rd_T52 l1_3 x52_1).f0.f0))) (fun _ hk => hk.2) (.int .i64 ((rd_T52 l1_3 x52_1).f0.f1))) (fun _ hk => hk.2) (.int .i64 ((rd_T52 l1_3 x52_1).f0.f2))) (fun _ hk => hk.2) (.int .i64 ((rd_T52 l1_3 x52_1).f1))) (fun _ h_ => h_.1))) hb); replace BK415 := fb_ BK415 NB415_432 hb; replace BK416 := fb_ BK416 NB416_432 hb; replace BK422 := fb_ BK422 NB422_432 hb; replace BK427 := fb_ BK427 NB427_432 hb; replace BK432 := Aside0.mk (blk_below (g := gb432) (o := .cells #[.int .i64 ((rd_T52 l1_3 x52_1).f0.f0), .int .i64 ((rd_T52 l1_3 x52_1).f0.f1), .int .i64 ((rd_T52 l1_3 x52_1).f0.f2), .int .i64 ((rd_T52 l1_3 x52_1).f1)] 52 (0, 0)) (bp_ BK432).out hb); replace HB := bt_ HB hb; (try clear hb); (try clear hb2); (try clear hk); (try clear hi)) | ((with_reducible refine gate_dst (N := 16) rfl ?_); (try (refine gate_guard (by rfl) ?_; dsimp only)); refine bx_ 16 #[.int .i64 0, .int .i64 0, .int .i64 0] 25 ?_; intro gb437 hg w77 hbox hb; have BK437 := Aside0.mk (hbox); have GW437 := bs_ HB hg; have GE437 := bs_ HB hg; have NB415_437 := bm_ BK415 hg; have NB437_415 := bn_ BK415 hg; have NB416_437 := bm_ BK416 hg; have NB437_416 := bn_ BK416 hg; have NB422_437 := bm_ BK422 hg; have NB437_422 := bn_ BK422 hg; have NB427_437 := bm_ BK427 hg; have NB437_427 := bn_ BK427 hg; have NB432_437 := bm_ BK432 hg; have NB437_432 := bn_ BK432 hg; replace HO_13 := Aside0.mk (Kd.R_below (ra_ HO_13.out) hb); replace BK415 := bb_ BK415 hb; replace BK416 := bb_ BK416 hb; replace BK422 := bb_ BK422 hb; replace BK427 := bb_ BK427 hb; replace BK432 := bb_ BK432 hb; replace HB := bt_ HB hb; clear hb hbox hg; have hnb78 := NB437_415.out; have hnc78 := NB415_437.out; have hnb79 := NB437_416.out; have hnc79 := NB416_437.out; have hnb80 := NB437_422.out; have hnc80 := NB422_437.out; have hnb81 := NB437_427.out; have hnc81 := NB427_437.out; have hnb82 := NB437_432.out; have hnc82 := NB432_437.out; obtain ⟨hcz83_0, hcz83_1, hcz83_2, hfz83_0, hfz83_1, hfz83_2⟩ := ch3_ BK437; obtain ⟨hcz84_0, hcz84_1, hcz84_2, hcz84_3, hfz84_0, hfz84_1, hfz84_2, hfz84_3⟩ := ch4_ BK432) | ((with_reducible refine gate_builtin (b := .append) (xs := #[.tmp 68, .tmp 73]) rfl ?_); (try (refine gate_guard (by rfl) ?_; dsimp only)); at_builtin; refine Kd.R_append k52 (w0 := w) w.heap.size rfl (.tmp 68) (.tmp 73) 26 52 (.agg #[(.int .i64 0), (.int .i64 0), (.int .i64 0), (.int .i64 0)]) 32 rfl Try.underlying26 info52 rfl (by decide) (by omega) u13 x13_1 (⟨(⟨t433, t434, t435⟩ : S25), (rd_T52 l1_3 x52_1).f1⟩ : S52) [.int .i64 t433, .int .i64 t434, .int .i64 t435, .int .i64 ((rd_T52 l1_3 x52_1).f1)] (fun k_ => k_ ≠ gb432) (fun _ => False) rfl (by first | (go_simp; done) | (go_simp; rfl)) ?aP (fun _ hk => hk.elim) ?aF ?aO ?aB ?aS ?aL ?_; (case aP => exact k52_mkM _ _ _ (⟨(⟨t433, t434, t435⟩ : S25), (rd_T52 l1_3 x52_1).f1⟩ : S52)); (case aB => exact (bw_ HB).out); (case aF => exact (fun k_ hk => Kd.freshB (g := gb432) (o := .cells #[.int .i64 ((rd_T52 l1_3 x52_1).f0.f0), .int .i64 ((rd_T52 l1_3 x52_1).f0.f1), .int .i64 ((rd_T52 l1_3 x52_1).f0.f2), .int .i64 ((rd_T52 l1_3 x52_1).f1)] 52 (0, 0)) (fl_ BK432 NB432_437).out k_ hk)); (case aO => exact (by (with_reducible repeat (first | apply Kd.R_alloc | apply Kd.R_drewN | apply Kd.R_drew)); exact Kd.R_mono (Kd.R_far (p := ⟨gb437, 2, none⟩) (Kd.R_far (p := ⟨gb437, 1, none⟩) (Kd.R_far (p := ⟨gb437, 0, none⟩) (Kd.R_types HO_13.out BK437.out (by decide)) (fun _ hk => hk.2) (.int .i64 t433)) (fun _ hk => hk.2) (.int .i64 t434)) (fun _ hk => hk.2) (.int .i64 t435)) (fun _ hk => hk.1.2))); (case aS => exact (below_size (bw_ HB).out)); (case aL => have := LMc65.out; omega); intro v442 w85 ho hb hg hat; rw [← Ny441.out] at ho; have n0_ := Aside0.mk (blk_grown (g := gb415) (o := .cells #[.int .i64 a1_0, .int .i64 a1_1, .int .i64 a1_2, .slice (some ad431) l1_3.length c1_3] 28 (0, 0)) (fl_ BK415 NB415_437).out hg (Kd.R_ne HO_13.out BK415.out (by decide))); have n1_ := Aside0.mk (blk_grown (g := gb416) (o := .cells #[.int .i64 0, .int .i64 0, .int .i64 0, .slice none 0 0] 28 (0, 0)) (fl_ BK416 NB416_437).out hg (Kd.R_ne HO_13.out BK416.out (by decide))); have n2_ := Aside0.mk (blk_grown (g := gb422) (o := .cells #[.int .i64 a2, .int .i64 a3, .int .i64 0, .int .i64 1] 83 (0, 0)) (fl_ BK422 NB422_437).out hg (Kd.R_ne HO_13.out BK422.out (by decide))); have n3_ := Aside0.mk (blk_grown (g := gb427) (o := .cells #[.int .i64 t423, .int .i64 t424, .int .i64 t425] 25 (0, 0)) (fl_ BK427 NB427_437).out hg (Kd.R_ne HO_13.out BK427.out (by decide))); have n4_ := Aside0.mk (blk_grown (g := gb432) (o := .cells #[.int .i64 ((rd_T52 l1_3 x52_1).f0.f0), .int .i64 ((rd_T52 l1_3 x52_1).f0.f1), .int .i64 ((rd_T52 l1_3 x52_1).f0.f2), .int .i64 ((rd_T52 l1_3 x52_1).f1)] 52 (0, 0)) (fl_ BK432 NB432_437).out hg (Kd.R_away HO_13.out (fun _ hk => hk.2))); have n5_ := Aside0.mk (blk_grown (g := gb437) (o := .cells #[.int .i64 t433, .int .i64 t434, .int .i64 t435] 25 (0, 0)) (bp_ BK437).out hg (Kd.R_ne HO_13.out BK437.out (by decide))); have n6_ := Aside0.mk (hb); have n7_ := Aside0.mk (ho); clear BK415; clear BK416; clear BK422; clear BK427; clear BK432; clear BK437; clear HB; clear HO_13; have BK415 := n0_; have BK416 := n1_; have BK422 := n2_; have BK427 := n3_; have BK432 := n4_; have BK437 := n5_; have HB := n6_; have HO443 := n7_; clear n0_ n1_ n2_ n3_ n4_ n5_ n6_ n7_; clear ho hb hg hat))
           go_roundg k1
           case measure => have := HK1.out; omega
           case rel => exact ⟨(false), (y441), (wrap64 (x52_1 + 1)), en_, en_, H', ⟨by have := HK1.out; omega⟩, ⟨by (with_reducible repeat (first | apply Kd.R_alloc | apply Kd.R_drewN | apply Kd.R_drew)); exact Kd.R_mono HO443.out (fun _ hk => trivial)⟩, bl_ BK415, bl_ BK416, bl_ BK422, bl_ BK427, bw_ HB⟩
          ·rw [if_neg c65] at H
           exact absurd H (by simp)
        ·rw [if_neg c41] at H
         exact absurd H (by simp)
       ·rw [if_neg c40] at H
        exact absurd H (by simp)
      ·rw [if_neg c39] at H
       have c39b0 : decide (x52_1 < (l1_3.length : Int)) = false := decide_eq_false c39
       clear c39
       by_cases c86 : x12_1 = true
       ·subst c86
        have H1 : ((impl_sorted.f k1 a0 t423 t424 t425 x13_1).bind fun bt444 => (some (bt444.1, bt444.2.1, bt444.2.2.1, bt444.2.2.2, 0))) = some (r1, r2, r3, r4, r5) := by rw [if_pos rfl] at H; exact H
        clear H
        have H := H1
        clear H1
        replace H := ob_ H
        obtain ⟨⟨t444, t445, t446, t447⟩, A870, H⟩ := H
        have A87 := Aside0.mk A870
        clear A870
        simp only [Option.some.injEq, Prod.mk.injEq] at H
        obtain ⟨rfl, rfl, rfl, rfl, rfl⟩ := H
        have hnb88 := NB427_415.out
        have hnc88 := NB415_427.out
        have hnb89 := NB427_416.out
        have hnc89 := NB416_427.out
        have hnb90 := NB427_422.out
        have hnc90 := NB422_427.out
        obtain ⟨hcz91_0, hcz91_1, hcz91_2, hfz91_0, hfz91_1, hfz91_2⟩ := ch3_ BK427
        obtain ⟨Ao92, co92, eo92⟩ := Kd.R_slice HO_13.out
        subst eo92
        go_wp2_with (first | (refine ge_ 82 Try.func33 #[.int .i64 a0, .agg #[.int .i64 t423, .int .i64 t424, .int .i64 t425], .slice Ao92 x13_1.length co92] ?_; (with_reducible refine (impl_sorted.calls k1 a0 t423 t424 t425 (fun k_ => some k_ = (.slice Ao92 x13_1.length co92 : Value).ownBlock) (.slice Ao92 x13_1.length co92) x13_1 t444 t445 t446 t447 w _ ?side1 ?side2 A87.out).mono ?_); (case side1 => repeat (first | (with_reducible first | exact HB.out | apply below_alloc | apply pw_below_drewN | apply below_drew1 | refine below_set ?_ GE415.out | refine below_set ?_ GE416.out | refine below_set ?_ GE422.out | refine below_set ?_ GE427.out) | exact HB.out)); (case side2 => exact Kd.R_tight rfl HO_13.out); rintro e w93 ⟨v448, rfl, ho0, hb, hkp⟩; refine ⟨_, rfl, ?_⟩; have n0_ := Aside0.mk (blk_kept (bl_ BK415).out hkp (fun hs_ => (fun e_ => (Kd.R_ne HO_13.out BK415.out (by decide)) e_) hs_)); have n1_ := Aside0.mk (blk_kept (bl_ BK416).out hkp (fun hs_ => (fun e_ => (Kd.R_ne HO_13.out BK416.out (by decide)) e_) hs_)); have n2_ := Aside0.mk (blk_kept (bl_ BK422).out hkp (fun hs_ => (fun e_ => (Kd.R_ne HO_13.out BK422.out (by decide)) e_) hs_)); have n3_ := Aside0.mk (blk_kept (bl_ BK427).out hkp (fun hs_ => (fun e_ => (Kd.R_ne HO_13.out BK427.out (by decide)) e_) hs_)); have n4_ := Aside0.mk (Kd.R_mono (ok' := fun k_ => True) ho0 (fun k_ hk_ => trivial)); have n5_ := Aside0.mk (hb); clear BK415; clear BK416; clear BK422; clear BK427; clear HB; clear HO_13; have BK415 := n0_; have BK416 := n1_; have BK422 := n2_; have BK427 := n3_; have HO449 := n4_; have HB := n5_; clear n0_ n1_ n2_ n3_ n4_ n5_; (try clear hb); (try clear hkp); (try clear ho0); have hnb94 := NB416_415.out; have hnc94 := NB415_416.out; have hnb95 := NB416_422.out; have hnc95 := NB422_416.out; obtain ⟨hcz96_0, hcz96_1, hcz96_2, hcz96_3, hfz96_0, hfz96_1, hfz96_2, hfz96_3⟩ := ch4_ BK416; obtain ⟨Ao97, co97, eo97⟩ := Kd.R_slice HO449.out; subst eo97))
        refine bodyPost_ret (results_ct rfl _ _ gb416 28 #[.int .i64 t444, .int .i64 t445, .int .i64 t446, .slice Ao97 t447.length co97] (0, 0) _ rfl (bp_ BK416).out Try.underlying28 rfl (by kernel_rfl)) rfl ?_
        exact ⟨_, es_, by (with_reducible repeat (first | apply Kd.R_alloc | apply Kd.R_drewN | apply Kd.R_drew)); exact Kd.R_mono (Kd.R_far (p := ⟨gb416, 3, none⟩) (Kd.R_far (p := ⟨gb416, 2, none⟩) (Kd.R_far (p := ⟨gb416, 1, none⟩) (Kd.R_far (p := ⟨gb416, 0, none⟩) (Kd.R_types HO449.out BK416.out (by decide)) (fun _ hk => hk.2) (.int .i64 t444)) (fun _ hk => hk.2) (.int .i64 t445)) (fun _ hk => hk.2) (.int .i64 t446)) (fun _ hk => hk.2) (.slice Ao97 t447.length co97)) (fun _ hk => trivial), (bw_ HB).out⟩
       ·replace c86 := Bool.eq_false_iff.mpr c86
        subst c86
        have H1 : (some (0, 0, 0, ([] : List (S52)), 3)) = some (r1, r2, r3, r4, r5) := by rw [if_neg (show ¬ (false = true) by decide)] at H; exact H
        clear H
        have H := H1
        clear H1
        simp only [Option.some.injEq, Prod.mk.injEq] at H
        obtain ⟨rfl, rfl, rfl, rfl, rfl⟩ := H
        have hnb98 := NB416_415.out
        have hnc98 := NB415_416.out
        have hnb99 := NB416_422.out
        have hnc99 := NB422_416.out
        have hnb100 := NB416_427.out
        have hnc100 := NB427_416.out
        obtain ⟨hcz101_0, hcz101_1, hcz101_2, hcz101_3, hfz101_0, hfz101_1, hfz101_2, hfz101_3⟩ := ch4_ BK416
        go_wp2
        refine bodyPost_ret (results_ct rfl _ _ gb416 28 #[.int .i64 0, .int .i64 0, .int .i64 0, .slice none 0 0] (0, 0) _ rfl (bp_ BK416).out Try.underlying28 rfl (by kernel_rfl)) rfl ?_
        exact ⟨_, es_, by first | exact Kd.R_nil _ _ _ _ _ | exact Kd.N_nil _ _ _ _ _ | exact Kd.V_nil _ _ _ _ _ | exact Kd.Q_nil _ _ _ _ _ | exact Kd.S_nil _ _ _ _ _, (bw_ HB).out⟩
   ·replace c15 := Bool.eq_false_iff.mpr c15
    subst c15
    have H1 : (some (0, 0, 0, ([] : List (S52)), 2)) = some (r1, r2, r3, r4, r5) := by rw [if_neg (show ¬ (false = true) by decide)] at H; exact H
    clear H
    have H := H1
    clear H1
    simp only [Option.some.injEq, Prod.mk.injEq] at H
    obtain ⟨rfl, rfl, rfl, rfl, rfl⟩ := H
    go_enter Try.func21, Try.ntmps21
    go_wp2_with (first | ((with_reducible refine gate_dst (N := 5) rfl ?_); (try (refine gate_guard (by rfl) ?_; dsimp only)); refine bx_ 5 #[.int .i64 a1_0, .int .i64 a1_1, .int .i64 a1_2, .slice A1_3 l1_3.length c1_3] 28 ?_; intro gb415 hg w102 hbox hb; have BK415 := Aside0.mk (hbox); have GW415 := bs_ HB hg; have GE415 := bs_ HB hg; replace HB := bt_ HB hb; clear hb hbox hg) | ((with_reducible refine gate_dst (N := 8) rfl ?_); (try (refine gate_guard (by rfl) ?_; dsimp only)); refine bx_ 8 #[.int .i64 0, .int .i64 0, .int .i64 0, .slice none 0 0] 28 ?_; intro gb416 hg w103 hbox hb; have BK416 := Aside0.mk (hbox); have GW416 := bs_ HB hg; have GE416 := bs_ HB hg; have NB415_416 := bm_ BK415 hg; have NB416_415 := bn_ BK415 hg; replace BK415 := bb_ BK415 hb; replace HB := bt_ HB hb; clear hb hbox hg; have hnb104 := NB415_416.out; have hnc104 := NB416_415.out; obtain ⟨hcz105_0, hcz105_1, hcz105_2, hcz105_3, hfz105_0, hfz105_1, hfz105_2, hfz105_3⟩ := ch4_ BK415) | (refine ge_ 21 Try.func53 #[.int .i64 a0, .agg #[.int .i64 a1_0, .int .i64 a1_1, .int .i64 a1_2, .slice A1_3 l1_3.length c1_3]] ?_; (with_reducible refine (impl_IsMeasure.calls k a0 a1_0 a1_1 a1_2 _ _ l1_3 true _ ?side1 ?side2 A5.out).mono ?_); (case side1 => exact ca_ (Kd.C_below HR1_3.out HB.out)); (case side2 => exact HC1_3.out); rintro e w106 ⟨rfl, hb⟩; refine ⟨_, rfl, ?_⟩; replace BK415 := bb_ BK415 hb; replace BK416 := bb_ BK416 hb; replace HB := bt_ HB hb; (try clear hb); (try clear hb2); (try clear hk); (try clear hi)) | ((with_reducible refine gate_dst (N := 30) rfl ?_); (try (refine gate_guard (by rfl) ?_; dsimp only)); refine Kd.R_lit (Kd.int .i64) _ 2 ?hg (N := 30) ?hd (xs := ([a2, a3] : List Int)) (inner := [.int .i64 a2, .int .i64 a3]) (ok := fun _ => True) (okp := fun _ => True) ?hr ?hp (fun _ hk => hk) trivial (Below.refl _ _) (Nat.le_refl _) (by simp) ?_; (case hd => rfl); (case hg => rfl); (case hr => first | (go_simp; done) | (go_simp; rfl)); (case hp => exact (Reps.one (show Kd.M (Kd.int .i64) _ _ _ a2 [.int .i64 a2] from rfl) (Reps.one (show Kd.M (Kd.int .i64) _ _ _ a3 [.int .i64 a3] from rfl) (Reps.none _ _)))); intro v419 w107 ho108 hb hg_ hnew_; clear hg_ hnew_; (first | rw [← Ny418.out] at ho108 | (simp only [Int.reduceToNat] at ho108; rw [← Ny418.out] at ho108)); have HO420 := Aside0.mk (Kd.R_lower ho108 (below_size (bw_ HB).out)); replace BK415 := bb_ BK415 hb; replace BK416 := bb_ BK416 hb; replace HB := bt_ HB hb; clear hb ho108; obtain ⟨Ao109, co109, eo109⟩ := Kd.R_slice HO420.out; subst eo109) | (go_at_call 54; (with_reducible refine (impl_within.calls k 1000 _ _ y418 false _ ?side1 ?side2 A14.out).mono ?_); (case side1 => exact ca_ (Kd.R_reads' HO420.out).2.2); (case side2 => exact (Kd.R_reads' HO420.out).2.1); rintro e w' ⟨rfl, ⟨nd, rfl⟩⟩; (try (rw [drewN_self w107]; generalize hq_ : World.drewN w107 _ = w107; have n0_ : Aside0 (Kd.R (Kd.int .i64) 2 w107 w.heap.size (fun _ => True) (.slice Ao109 y418.length co109) y418) := ⟨by rw [← hq_]; exact (ra_ HO420.out)⟩; have n1_ : Aside0 (w107.heap[gb415]? = some (.cells #[.int .i64 a1_0, .int .i64 a1_1, .int .i64 a1_2, .slice A1_3 l1_3.length c1_3] 28 (0, 0))) := ⟨by rw [← hq_]; exact (bl_ BK415).out⟩; have n2_ : Aside0 (w107.heap[gb416]? = some (.cells #[.int .i64 0, .int .i64 0, .int .i64 0, .slice none 0 0] 28 (0, 0))) := ⟨by rw [← hq_]; exact (bl_ BK416).out⟩; have n3_ : Aside0 (Below w.heap.size w w107) := ⟨by rw [← hq_]; exact (bw_ HB).out⟩; clear HO420 BK415 BK416 HB hq_; have HO420 := n0_; have BK415 := n1_; have BK416 := n2_; have HB := n3_; clear n0_ n1_ n2_ n3_)); obtain ⟨hcz110_0, hcz110_1, hcz110_2, hcz110_3, hfz110_0, hfz110_1, hfz110_2, hfz110_3⟩ := ch4_ BK416))
    refine bodyPost_ret (results_ct rfl _ _ gb416 28 #[.int .i64 0, .int .i64 0, .int .i64 0, .slice none 0 0] (0, 0) _ rfl (bp_ BK416).out Try.underlying28 rfl (by kernel_rfl)) rfl ?_
    exact ⟨_, es_, by first | exact Kd.R_nil _ _ _ _ _ | exact Kd.N_nil _ _ _ _ _ | exact Kd.V_nil _ _ _ _ _ | exact Kd.Q_nil _ _ _ _ _ | exact Kd.S_nil _ _ _ _ _, (bw_ HB).out⟩
 ·replace c6 := Bool.eq_false_iff.mpr c6
  subst c6
  have H1 : (some (0, 0, 0, ([] : List (S52)), 1)) = some (r1, r2, r3, r4, r5) := by rw [if_neg (show ¬ (false = true) by decide)] at H; exact H
  clear H
  have H := H1
  clear H1
  simp only [Option.some.injEq, Prod.mk.injEq] at H
  obtain ⟨rfl, rfl, rfl, rfl, rfl⟩ := H
  go_enter Try.func21, Try.ntmps21
  go_wp2_with (first | ((with_reducible refine gate_dst (N := 5) rfl ?_); (try (refine gate_guard (by rfl) ?_; dsimp only)); refine bx_ 5 #[.int .i64 a1_0, .int .i64 a1_1, .int .i64 a1_2, .slice A1_3 l1_3.length c1_3] 28 ?_; intro gb415 hg w111 hbox hb; have BK415 := Aside0.mk (hbox); have GW415 := bs_ HB hg; have GE415 := bs_ HB hg; replace HB := bt_ HB hb; clear hb hbox hg) | ((with_reducible refine gate_dst (N := 8) rfl ?_); (try (refine gate_guard (by rfl) ?_; dsimp only)); refine bx_ 8 #[.int .i64 0, .int .i64 0, .int .i64 0, .slice none 0 0] 28 ?_; intro gb416 hg w112 hbox hb; have BK416 := Aside0.mk (hbox); have GW416 := bs_ HB hg; have GE416 := bs_ HB hg; have NB415_416 := bm_ BK415 hg; have NB416_415 := bn_ BK415 hg; replace BK415 := bb_ BK415 hb; replace HB := bt_ HB hb; clear hb hbox hg; have hnb113 := NB415_416.out; have hnc113 := NB416_415.out; obtain ⟨hcz114_0, hcz114_1, hcz114_2, hcz114_3, hfz114_0, hfz114_1, hfz114_2, hfz114_3⟩ := ch4_ BK415) | (refine ge_ 21 Try.func53 #[.int .i64 a0, .agg #[.int .i64 a1_0, .int .i64 a1_1, .int .i64 a1_2, .slice A1_3 l1_3.length c1_3]] ?_; (with_reducible refine (impl_IsMeasure.calls k a0 a1_0 a1_1 a1_2 _ _ l1_3 false _ ?side1 ?side2 A5.out).mono ?_); (case side1 => exact ca_ (Kd.C_below HR1_3.out HB.out)); (case side2 => exact HC1_3.out); rintro e w115 ⟨rfl, hb⟩; refine ⟨_, rfl, ?_⟩; replace BK415 := bb_ BK415 hb; replace BK416 := bb_ BK416 hb; replace HB := bt_ HB hb; (try clear hb); (try clear hb2); (try clear hk); (try clear hi); obtain ⟨hcz116_0, hcz116_1, hcz116_2, hcz116_3, hfz116_0, hfz116_1, hfz116_2, hfz116_3⟩ := ch4_ BK416))
  refine bodyPost_ret (results_ct rfl _ _ gb416 28 #[.int .i64 0, .int .i64 0, .int .i64 0, .slice none 0 0] (0, 0) _ rfl (bp_ BK416).out Try.underlying28 rfl (by kernel_rfl)) rfl ?_
  exact ⟨_, es_, by first | exact Kd.R_nil _ _ _ _ _ | exact Kd.N_nil _ _ _ _ _ | exact Kd.V_nil _ _ _ _ _ | exact Kd.Q_nil _ _ _ _ _ | exact Kd.S_nil _ _ _ _ _, (bw_ HB).out⟩
end Go.Proofs.Ytbldceikdajdlaa.QD
