import Derived.Test.YtbldceikdajdlaaQDx4
import Derived.Test.YtbldceikdajdlaaQDx19
import Derived.Test.YtbldceikdajdlaaQDx24
import Derived.Test.YtbldceikdajdlaaQDx30
import Derived.Test.YtbldceikdajdlaaQDx32
namespace Go.Proofs.Ytbldceikdajdlaa.QD
open Go.RowKit Go.Proofs.YtbldceikdajdlaaW.PrintWords Go.Proofs.YtbldceikdajdlaaW.PrintLast Go.Proofs.YtbldceikdajdlaaW.PrintMore
attribute [local go_sem] isSome_setCell max2_int min2_int max_two min_two max_three min_three max_four min_four
set_option linter.unusedVariables false
set_option linter.unusedSimpArgs false

/-! ### spec_AffineImage: function 20 -/
def spec_AffineImage.l0 : Nat → Int → List (S52) → Bool → Int → Int → Int → Int → List (S52) → Int → Int → Int → Int → Int → Int → Int → Option (Int × Int × Int × (List (S52)) × Int)
 | 0, _, _, _, _, _, _, _, _, _, _, _, _, _, _, _ => none
 | k + 1, x0, x11, x13, x14, x286000, x286001, x286002, x286003, x294000, x294001, x294002, x294003, x299000, x299001, x299002 => if x14 < (x286003.length : Int) then (if x13 = true then (if 0 ≤ x14 then ((spec_l04Move.f k x0 x294000 x294001 x294002 x294003 ((rd_T52 x286003 x14).f0.f0) ((rd_T52 x286003 x14).f0.f1) ((rd_T52 x286003 x14).f0.f2)).bind fun bt300 => (if x11.length < 4398046511104 then (spec_AffineImage.l0 k x0 (x11 ++ [(⟨(⟨bt300.1, bt300.2.1, bt300.2.2.1⟩ : S25), (rd_T52 x286003 x14).f1⟩ : S52)]) bt300.2.2.2 (wrap64 (x14 + 1)) x286000 x286001 x286002 x286003 x294000 x294001 x294002 x294003 x299000 x299001 x299002) else (none))) else (none)) else (some (0, 0, 0, ([] : List (S52)), 3))) else (if x13 = true then ((spec_l08Told.f k x0 x299000 x299001 x299002 x11).bind fun bt309 => (some (bt309.1, bt309.2.1, bt309.2.2.1, bt309.2.2.2.1, bt309.2.2.2.2))) else (some (0, 0, 0, ([] : List (S52)), 3)))
def spec_AffineImage.f (k : Nat) (a0 : Int) (a1_0 : Int) (a1_1 : Int) (a1_2 : Int) (l1_3 : List (S52)) (a2 : Int) (a3 : Int) : Option (Int × Int × Int × (List (S52)) × Int) := (spec_l08Is.f k a0 a1_0 a1_1 a1_2 l1_3).bind fun t287 => (if t287 = true then (if a2 = 0 then (some (0, 0, 0, ([] : List (S52)), 2)) else ((spec_l01In.f a2 (-1000) 1000).bind fun t288 => (if t288 = true then ((spec_l01In.f a3 (-1000) 1000).bind fun t289 => (if t289 = true then ((spec_l04Move.f k a0 a2 a3 0 1 a1_0 a1_1 a1_2).bind fun bt294 => (spec_AffineImage.l0 k a0 (([] : List (S52))) bt294.2.2.2 0 a1_0 a1_1 a1_2 l1_3 a2 a3 0 1 bt294.1 bt294.2.1 bt294.2.2.1)) else (some (0, 0, 0, ([] : List (S52)), 2)))) else (some (0, 0, 0, ([] : List (S52)), 2))))) else (some (0, 0, 0, ([] : List (S52)), 1)))
def spec_AffineImage.T10 : Bool × List (List Nat × List Nat) := (true, [([], []), ([], []), ([], []), ([2], [2]), ([], []), ([3, 4], [3, 4]), ([5], [5]), ([6], [6]), ([0, 1, 7], [0, 1, 7]), ([8], [8]), ([9], [9]), ([9], [9]), ([], []), ([12, 10, 8, 0, 1, 2, 3, 4, 5, 6, 7, 8, 9, 10, 12], [10, 12]), ([11, 13, 0, 1, 2, 3, 4, 5, 6, 7, 8, 9, 10, 11, 12, 13], [11])])
def spec_AffineImage.B10 : List Nat := [0, 0, 0, 4, 0, 28, 60, 124, 255, 511, 1023, 1023, 0, 6143, 16383]
theorem spec_AffineImage.tab10 : rtab .any (opsOf Try.f20 10) = spec_AffineImage.T10 := by kernel_rfl
theorem spec_AffineImage.bits10 : waitsOk spec_AffineImage.T10.2 spec_AffineImage.B10 = true := by kernel_rfl
def spec_AffineImage.T12 : Bool × List (List Nat × List Nat) := (true, [([], []), ([], []), ([], []), ([2], [2]), ([], []), ([3, 4], [3, 4]), ([5], [5]), ([6], [6]), ([1, 7], [1, 7]), ([8], [8]), ([0, 9], [0, 9]), ([10, 10, 0, 1, 2, 3, 4, 5, 6, 7, 8, 9, 10], [0, 10])])
def spec_AffineImage.B12 : List Nat := [0, 0, 0, 4, 0, 28, 60, 124, 254, 510, 1023, 2047]
theorem spec_AffineImage.tab12 : rtab .any (opsOf Try.f20 12) = spec_AffineImage.T12 := by kernel_rfl
theorem spec_AffineImage.bits12 : waitsOk spec_AffineImage.T12.2 spec_AffineImage.B12 = true := by kernel_rfl
set_option maxHeartbeats 8000000 in
set_option maxRecDepth 100000 in
theorem spec_AffineImage.calls (k : Nat) (a0 : Int) (a1_0 : Int) (a1_1 : Int) (a1_2 : Int) (A1_3 : Option Addr) (c1_3 : Nat) (l1_3 : List (S52)) (a2 : Int) (a3 : Int) (r1 : Int) (r2 : Int) (r3 : Int) (r4 : List (S52)) (r5 : Int) (w : World) (hr1_3 : Kd.C k52 w A1_3 l1_3.length l1_3) (hc1_3 : l1_3.length ≤ c1_3) (h : spec_AffineImage.f k a0 a1_0 a1_1 a1_2 l1_3 a2 a3 = some (r1, r2, r3, r4, r5)) :
  Calls Try.prog 20 #[.int .i64 a0, .agg #[.int .i64 a1_0, .int .i64 a1_1, .int .i64 a1_2, .slice A1_3 l1_3.length c1_3], .int .i64 a2, .int .i64 a3] w fun e w' => ∃ v3_ : Value, e = .returned (.tuple #[.agg #[.int .i64 r1, .int .i64 r2, .int .i64 r3, v3_], .int .i64 r5]) ∧ Kd.R k52 52 w' w.heap.size (fun _ => True) v3_ r4 ∧ Below w.heap.size w w' := by
 have hu28 := Try.underlying28
 have hu81 := Try.underlying81
 have hu83 := Try.underlying83
 have hu25 := Try.underlying25
 have hu52 := Try.underlying52
 have HR1_3 := Aside0.mk hr1_3
 have HC1_3 := Aside0.mk hc1_3
 clear hr1_3 hc1_3
 have HB := Aside0.mk (Below.refl w.heap.size w)
 have H : ((spec_l08Is.f k a0 a1_0 a1_1 a1_2 l1_3).bind fun t287 => (if t287 = true then (if a2 = 0 then (some (0, 0, 0, ([] : List (S52)), 2)) else ((spec_l01In.f a2 (-1000) 1000).bind fun t288 => (if t288 = true then ((spec_l01In.f a3 (-1000) 1000).bind fun t289 => (if t289 = true then ((spec_l04Move.f k a0 a2 a3 0 1 a1_0 a1_1 a1_2).bind fun bt294 => (spec_AffineImage.l0 k a0 (([] : List (S52))) bt294.2.2.2 0 a1_0 a1_1 a1_2 l1_3 a2 a3 0 1 bt294.1 bt294.2.1 bt294.2.2.1)) else (some (0, 0, 0, ([] : List (S52)), 2)))) else (some (0, 0, 0, ([] : List (S52)), 2))))) else (some (0, 0, 0, ([] : List (S52)), 1)))) = some (r1, r2, r3, r4, r5) := h
 clear h
 replace H := ob_ H
 obtain ⟨t287, A50, H⟩ := H
 have A5 := Aside0.mk A50
 clear A50
 by_cases c6 : t287 = true
 ·subst c6
  have H1 : (if a2 = 0 then (some (0, 0, 0, ([] : List (S52)), 2)) else ((spec_l01In.f a2 (-1000) 1000).bind fun t288 => (if t288 = true then ((spec_l01In.f a3 (-1000) 1000).bind fun t289 => (if t289 = true then ((spec_l04Move.f k a0 a2 a3 0 1 a1_0 a1_1 a1_2).bind fun bt294 => (spec_AffineImage.l0 k a0 (([] : List (S52))) bt294.2.2.2 0 a1_0 a1_1 a1_2 l1_3 a2 a3 0 1 bt294.1 bt294.2.1 bt294.2.2.1)) else (some (0, 0, 0, ([] : List (S52)), 2)))) else (some (0, 0, 0, ([] : List (S52)), 2))))) = some (r1, r2, r3, r4, r5) := by rw [if_pos rfl] at H; exact H
  clear H
  have H := H1
  clear H1
  by_cases c7 : a2 = 0
  ·rw [if_pos c7] at H
   have c7b0 : (a2 == 0) = true := beq_iff_eq.mpr c7
   have c7b1 : (a2 != 0) = false := bne_eq_false_iff_eq.mpr c7
   clear c7
   simp only [Option.some.injEq, Prod.mk.injEq] at H
   obtain ⟨rfl, rfl, rfl, rfl, rfl⟩ := H
   go_enter Try.func20, Try.ntmps20
   go_wp2_with (first | (refine bx_ 5 #[.int .i64 a1_0, .int .i64 a1_1, .int .i64 a1_2, .slice A1_3 l1_3.length c1_3] 28 ?_; intro gb285 hg w8 hbox hb; have BK285 := Aside0.mk (hbox); have GW285 := bs_ HB hg; have GE285 := bs_ HB hg; replace HB := bt_ HB hb; clear hb hbox hg) | (refine bx_ 8 #[.int .i64 0, .int .i64 0, .int .i64 0, .slice none 0 0] 28 ?_; intro gb286 hg w9 hbox hb; have BK286 := Aside0.mk (hbox); have GW286 := bs_ HB hg; have GE286 := bs_ HB hg; have NB285_286 := bm_ BK285 hg; have NB286_285 := bn_ BK285 hg; replace BK285 := bb_ BK285 hb; replace HB := bt_ HB hb; clear hb hbox hg; have hnb10 := NB285_286.out; have hnc10 := NB286_285.out; obtain ⟨hcz11_0, hcz11_1, hcz11_2, hcz11_3, hfz11_0, hfz11_1, hfz11_2, hfz11_3⟩ := ch4_ BK285) | (refine ge_ 22 Try.func51 #[.int .i64 a0, .agg #[.int .i64 a1_0, .int .i64 a1_1, .int .i64 a1_2, .slice A1_3 l1_3.length c1_3]] ?_; (with_reducible refine (spec_l08Is.calls k a0 a1_0 a1_1 a1_2 _ _ l1_3 true _ ?side1 ?side2 A5.out).mono ?_); (case side1 => exact ca_ (Kd.C_below HR1_3.out HB.out)); (case side2 => exact HC1_3.out); rintro e w12 ⟨rfl, hb⟩; refine ⟨_, rfl, ?_⟩; replace BK285 := bb_ BK285 hb; replace BK286 := bb_ BK286 hb; replace HB := bt_ HB hb; (try clear hb); (try clear hb2); (try clear hk); (try clear hi); obtain ⟨hcz13_0, hcz13_1, hcz13_2, hcz13_3, hfz13_0, hfz13_1, hfz13_2, hfz13_3⟩ := ch4_ BK286))
   refine bodyPost_ret (results_ct rfl _ _ gb286 28 #[.int .i64 0, .int .i64 0, .int .i64 0, .slice none 0 0] (0, 0) _ rfl (bp_ BK286).out Try.underlying28 rfl (by kernel_rfl)) rfl ?_
   exact ⟨_, es_, by first | exact Kd.R_nil _ _ _ _ _ | exact Kd.N_nil _ _ _ _ _ | exact Kd.V_nil _ _ _ _ _ | exact Kd.Q_nil _ _ _ _ _ | exact Kd.S_nil _ _ _ _ _, (bw_ HB).out⟩
  ·rw [if_neg c7] at H
   have c7b0 : (a2 == 0) = false := beq_eq_false_iff_ne.mpr c7
   have c7b1 : (a2 != 0) = true := bne_iff_ne.mpr c7
   replace H := ob_ H
   obtain ⟨t288, A140, H⟩ := H
   have A14 := Aside0.mk A140
   clear A140
   by_cases c15 : t288 = true
   ·subst c15
    have H1 : ((spec_l01In.f a3 (-1000) 1000).bind fun t289 => (if t289 = true then ((spec_l04Move.f k a0 a2 a3 0 1 a1_0 a1_1 a1_2).bind fun bt294 => (spec_AffineImage.l0 k a0 (([] : List (S52))) bt294.2.2.2 0 a1_0 a1_1 a1_2 l1_3 a2 a3 0 1 bt294.1 bt294.2.1 bt294.2.2.1)) else (some (0, 0, 0, ([] : List (S52)), 2)))) = some (r1, r2, r3, r4, r5) := by rw [if_pos rfl] at H; exact H
    clear H
    have H := H1
    clear H1
    replace H := ob_ H
    obtain ⟨t289, A160, H⟩ := H
    have A16 := Aside0.mk A160
    clear A160
    by_cases c17 : t289 = true
    ·subst c17
     have H1 : ((spec_l04Move.f k a0 a2 a3 0 1 a1_0 a1_1 a1_2).bind fun bt294 => (spec_AffineImage.l0 k a0 (([] : List (S52))) bt294.2.2.2 0 a1_0 a1_1 a1_2 l1_3 a2 a3 0 1 bt294.1 bt294.2.1 bt294.2.2.1)) = some (r1, r2, r3, r4, r5) := by rw [if_pos rfl] at H; exact H
     clear H
     have H := H1
     clear H1
     obtain ⟨y290, hy290⟩ : ∃ y_ : List (S52), y_ = (([] : List (S52))) := ⟨_, rfl⟩
     replace H : ((spec_l04Move.f k a0 a2 a3 0 1 a1_0 a1_1 a1_2).bind fun bt294 => (spec_AffineImage.l0 k a0 y290 bt294.2.2.2 0 a1_0 a1_1 a1_2 l1_3 a2 a3 0 1 bt294.1 bt294.2.1 bt294.2.2.1)) = some (r1, r2, r3, r4, r5) := by first | (rw [hy290]; with_reducible exact H) | (have H2_ := (Option.bind_some _ _).symm.trans H; rw [hy290]; with_reducible exact H2_) | (have H2_ := (Option.bind_some _ _).symm.trans H; with_reducible exact H2_) | with_reducible exact H | (rw [hy290]; exact H) | exact H
     have Ny290 := Aside0.mk hy290
     clear hy290
     replace H := ob_ H
     obtain ⟨⟨t294, t295, t296, t297⟩, A180, H⟩ := H
     have A18 := Aside0.mk A180
     clear A180
     have H' := Aside0.mk H
     clear H
     go_enter Try.func20, Try.ntmps20
     go_wp2_with (first | (refine bx_ 5 #[.int .i64 a1_0, .int .i64 a1_1, .int .i64 a1_2, .slice A1_3 l1_3.length c1_3] 28 ?_; intro gb285 hg w19 hbox hb; have BK285 := Aside0.mk (hbox); have GW285 := bs_ HB hg; have GE285 := bs_ HB hg; replace HB := bt_ HB hb; clear hb hbox hg) | (refine bx_ 8 #[.int .i64 0, .int .i64 0, .int .i64 0, .slice none 0 0] 28 ?_; intro gb286 hg w20 hbox hb; have BK286 := Aside0.mk (hbox); have GW286 := bs_ HB hg; have GE286 := bs_ HB hg; have NB285_286 := bm_ BK285 hg; have NB286_285 := bn_ BK285 hg; replace BK285 := bb_ BK285 hb; replace HB := bt_ HB hb; clear hb hbox hg; have hnb21 := NB285_286.out; have hnc21 := NB286_285.out; obtain ⟨hcz22_0, hcz22_1, hcz22_2, hcz22_3, hfz22_0, hfz22_1, hfz22_2, hfz22_3⟩ := ch4_ BK285) | (refine ge_ 22 Try.func51 #[.int .i64 a0, .agg #[.int .i64 a1_0, .int .i64 a1_1, .int .i64 a1_2, .slice A1_3 l1_3.length c1_3]] ?_; (with_reducible refine (spec_l08Is.calls k a0 a1_0 a1_1 a1_2 _ _ l1_3 true _ ?side1 ?side2 A5.out).mono ?_); (case side1 => exact ca_ (Kd.C_below HR1_3.out HB.out)); (case side2 => exact HC1_3.out); rintro e w23 ⟨rfl, hb⟩; refine ⟨_, rfl, ?_⟩; replace BK285 := bb_ BK285 hb; replace BK286 := bb_ BK286 hb; replace HB := bt_ HB hb; (try clear hb); (try clear hb2); (try clear hk); (try clear hi)) | (go_at_call 25; (with_reducible refine (spec_l01In.calls a2 (-1000) 1000 true _ A14.out).mono ?_); rintro e w' ⟨rfl, ⟨nd, rfl⟩⟩; (try (rw [drewN_self w23]; generalize hq_ : World.drewN w23 _ = w23; have n0_ : Aside0 (w23.heap[gb285]? = some (.cells #[.int .i64 a1_0, .int .i64 a1_1, .int .i64 a1_2, .slice A1_3 l1_3.length c1_3] 28 (0, 0))) := ⟨by rw [← hq_]; exact (bl_ BK285).out⟩; have n1_ : Aside0 (w23.heap[gb286]? = some (.cells #[.int .i64 0, .int .i64 0, .int .i64 0, .slice none 0 0] 28 (0, 0))) := ⟨by rw [← hq_]; exact (bl_ BK286).out⟩; have n2_ : Aside0 (Below w.heap.size w w23) := ⟨by rw [← hq_]; exact (bw_ HB).out⟩; clear BK285 BK286 HB hq_; have BK285 := n0_; have BK286 := n1_; have HB := n2_; clear n0_ n1_ n2_))) | (go_at_call 25; (with_reducible refine (spec_l01In.calls a3 (-1000) 1000 true _ A16.out).mono ?_); rintro e w' ⟨rfl, ⟨nd, rfl⟩⟩; (try (rw [drewN_self w23]; generalize hq_ : World.drewN w23 _ = w23; have n0_ : Aside0 (w23.heap[gb285]? = some (.cells #[.int .i64 a1_0, .int .i64 a1_1, .int .i64 a1_2, .slice A1_3 l1_3.length c1_3] 28 (0, 0))) := ⟨by rw [← hq_]; exact (bl_ BK285).out⟩; have n1_ : Aside0 (w23.heap[gb286]? = some (.cells #[.int .i64 0, .int .i64 0, .int .i64 0, .slice none 0 0] 28 (0, 0))) := ⟨by rw [← hq_]; exact (bl_ BK286).out⟩; have n2_ : Aside0 (Below w.heap.size w w23) := ⟨by rw [← hq_]; exact (bw_ HB).out⟩; clear BK285 BK286 HB hq_; have BK285 := n0_; have BK286 := n1_; have HB := n2_; clear n0_ n1_ n2_))) | ((with_reducible refine gate_dst (N := 44) rfl ?_); refine Kd.R_lit k52 _ 52 ?hg (N := 44) ?hd (xs := ([] : List (S52))) (inner := []) (ok := fun _ => True) (okp := fun _ => True) ?hr ?hp (fun _ hk => hk) trivial (Below.refl _ _) (Nat.le_refl _) (by simp) ?_; (case hd => rfl); (case hg => rfl); (case hr => first | (go_simp; done) | (go_simp; rfl)); (case hp => exact (Reps.none _ _)); intro v291 w24 ho25 hb hg_ hnew_; clear hg_ hnew_; (first | rw [← Ny290.out] at ho25 | (simp only [Int.reduceToNat] at ho25; rw [← Ny290.out] at ho25)); have HO292 := Aside0.mk (Kd.R_lower ho25 (below_size (bw_ HB).out)); replace BK285 := bb_ BK285 hb; replace BK286 := bb_ BK286 hb; replace HB := bt_ HB hb; clear hb ho25) | (refine bx_ 10 #[.int .i64 0, .int .i64 0, .int .i64 0, .int .i64 0] 83 ?_; intro gb293 hg w26 hbox hb; have BK293 := Aside0.mk (hbox); have GW293 := bs_ HB hg; have GE293 := bs_ HB hg; have NB285_293 := bm_ BK285 hg; have NB293_285 := bn_ BK285 hg; have NB286_293 := bm_ BK286 hg; have NB293_286 := bn_ BK286 hg; replace HO292 := Aside0.mk (Kd.R_below (ra_ HO292.out) hb); replace BK285 := bb_ BK285 hb; replace BK286 := bb_ BK286 hb; replace HB := bt_ HB hb; clear hb hbox hg; have hnb27 := NB293_285.out; have hnc27 := NB285_293.out; have hnb28 := NB293_286.out; have hnc28 := NB286_293.out; obtain ⟨hcz29_0, hcz29_1, hcz29_2, hcz29_3, hfz29_0, hfz29_1, hfz29_2, hfz29_3⟩ := ch4_ BK293; obtain ⟨hcz30_0, hcz30_1, hcz30_2, hcz30_3, hfz30_0, hfz30_1, hfz30_2, hfz30_3⟩ := ch4_ BK285) | (refine ge_ 50 Try.func52 #[.int .i64 a0, .agg #[.int .i64 a2, .int .i64 a3, .int .i64 0, .int .i64 1], .agg #[.int .i64 a1_0, .int .i64 a1_1, .int .i64 a1_2]] ?_; (with_reducible refine (spec_l04Move.calls k a0 a2 a3 0 1 a1_0 a1_1 a1_2 t294 t295 t296 t297 _ A18.out).mono ?_); rintro e w31 ⟨rfl, hb⟩; refine ⟨_, rfl, ?_⟩; replace HO292 := Aside0.mk (Kd.R_below (ra_ (rs4_ HO292.out BK293.out)) hb); replace BK285 := fb_ BK285 NB285_293 hb; replace BK286 := fb_ BK286 NB286_293 hb; replace BK293 := Aside0.mk (blk_below (g := gb293) (o := .cells #[.int .i64 a2, .int .i64 a3, .int .i64 0, .int .i64 1] 83 (0, 0)) (bp_ BK293).out hb); replace HB := bt_ HB hb; (try clear hb); (try clear hb2); (try clear hk); (try clear hi)) | (refine bx_ 12 #[.int .i64 0, .int .i64 0, .int .i64 0] 25 ?_; intro gb298 hg w32 hbox hb; have BK298 := Aside0.mk (hbox); have GW298 := bs_ HB hg; have GE298 := bs_ HB hg; have NB285_298 := bm_ BK285 hg; have NB298_285 := bn_ BK285 hg; have NB286_298 := bm_ BK286 hg; have NB298_286 := bn_ BK286 hg; have NB293_298 := bm_ BK293 hg; have NB298_293 := bn_ BK293 hg; replace HO292 := Aside0.mk (Kd.R_below (ra_ HO292.out) hb); replace BK285 := bb_ BK285 hb; replace BK286 := bb_ BK286 hb; replace BK293 := bb_ BK293 hb; replace HB := bt_ HB hb; clear hb hbox hg; have hnb33 := NB298_285.out; have hnc33 := NB285_298.out; have hnb34 := NB298_286.out; have hnc34 := NB286_298.out; have hnb35 := NB298_293.out; have hnc35 := NB293_298.out; obtain ⟨hcz36_0, hcz36_1, hcz36_2, hfz36_0, hfz36_1, hfz36_2⟩ := ch3_ BK298))
     go_loopg [11, 13, 14] k (fun kq v11 v13 v14 w' => ∃ (x11_1 : List (S52)) (x13_1 : Bool) (x14_1 : Int), v13 = .bool x13_1 ∧ v14 = .int .i64 x14_1 ∧ Aside0 (spec_AffineImage.l0 kq a0 x11_1 x13_1 x14_1 a1_0 a1_1 a1_2 l1_3 a2 a3 0 1 t294 t295 t296 = some (r1, r2, r3, r4, r5)) ∧ Aside0 (kq ≤ k) ∧ Aside0 (Kd.R k52 52 w' w.heap.size (fun _ => True) v11 x11_1) ∧ Aside0 (w'.heap[gb285]? = some (.cells #[.int .i64 a1_0, .int .i64 a1_1, .int .i64 a1_2, (.slice A1_3 l1_3.length c1_3)] 28 (0, 0))) ∧ Aside0 (w'.heap[gb286]? = some (.cells #[.int .i64 0, .int .i64 0, .int .i64 0, (.slice none 0 0)] 28 (0, 0))) ∧ Aside0 (w'.heap[gb293]? = some (.cells #[.int .i64 a2, .int .i64 a3, .int .i64 0, .int .i64 1] 83 (0, 0))) ∧ Aside0 (w'.heap[gb298]? = some (.cells #[.int .i64 t294, .int .i64 t295, .int .i64 t296] 25 (0, 0))) ∧ Aside0 (Below w.heap.size w w'))
     case atStart => exact ⟨(y290), (t297), (0), en_, en_, H', ⟨Nat.le_refl _⟩, ⟨by (with_reducible repeat (first | apply Kd.R_alloc | apply Kd.R_drewN | apply Kd.R_drew)); exact Kd.R_mono (Kd.R_far (p := ⟨gb298, 2, none⟩) (Kd.R_far (p := ⟨gb298, 1, none⟩) (Kd.R_far (p := ⟨gb298, 0, none⟩) (Kd.R_types HO292.out BK298.out (by decide)) (fun _ hk => hk.2) (.int .i64 t294)) (fun _ hk => hk.2) (.int .i64 t295)) (fun _ hk => hk.2) (.int .i64 t296)) (fun _ hk => trivial)⟩, fl_ BK285 NB285_298, fl_ BK286 NB286_298, fl_ BK293 NB293_298, bp_ BK298, bw_ HB⟩
     case round =>
      clear H'
      try clear c1
      try clear c2
      try clear p2
      try clear c3
      try clear c5
      try clear c6
      try clear c7
      try clear c7b0
      try clear c7b1
      try clear c10
      try clear c15
      try clear c17
      try clear c20
      try clear c21
      try clear c27
      try clear c28
      try clear c33
      try clear c34
      try clear c35
      try clear hcz11_0 hcz11_1 hcz11_2 hcz11_3
      try clear hcz13_0 hcz13_1 hcz13_2 hcz13_3
      try clear hcz22_0 hcz22_1 hcz22_2 hcz22_3
      try clear hcz29_0 hcz29_1 hcz29_2 hcz29_3
      try clear hcz30_0 hcz30_1 hcz30_2 hcz30_3
      try clear hcz36_0 hcz36_1 hcz36_2
      try clear hfz11_0 hfz11_1 hfz11_2 hfz11_3
      try clear hfz13_0 hfz13_1 hfz13_2 hfz13_3
      try clear hfz22_0 hfz22_1 hfz22_2 hfz22_3
      try clear hfz29_0 hfz29_1 hfz29_2 hfz29_3
      try clear hfz30_0 hfz30_1 hfz30_2 hfz30_3
      try clear hfz36_0 hfz36_1 hfz36_2
      obtain ⟨x11_1, x13_1, x14_1, rfl, rfl, HA, HK1, HO_11, BK285, BK286, BK293, BK298, HB⟩ := hrel
      cases gk with
      | zero => exact absurd HA.out (by simp [spec_AffineImage.l0])
      | succ k1 =>
       have H := HA.out
       clear HA
       simp only [spec_AffineImage.l0] at H
       by_cases c37 : x14_1 < (l1_3.length : Int)
       ·rw [if_pos c37] at H
        have c37b0 : decide (x14_1 < (l1_3.length : Int)) = true := decide_eq_true c37
        clear c37
        by_cases c38 : x13_1 = true
        ·subst c38
         have H1 : (if 0 ≤ x14_1 then ((spec_l04Move.f k1 a0 a2 a3 0 1 ((rd_T52 l1_3 x14_1).f0.f0) ((rd_T52 l1_3 x14_1).f0.f1) ((rd_T52 l1_3 x14_1).f0.f2)).bind fun bt300 => (if x11_1.length < 4398046511104 then (spec_AffineImage.l0 k1 a0 (x11_1 ++ [(⟨(⟨bt300.1, bt300.2.1, bt300.2.2.1⟩ : S25), (rd_T52 l1_3 x14_1).f1⟩ : S52)]) bt300.2.2.2 (wrap64 (x14_1 + 1)) a1_0 a1_1 a1_2 l1_3 a2 a3 0 1 t294 t295 t296) else (none))) else (none)) = some (r1, r2, r3, r4, r5) := by rw [if_pos rfl] at H; exact H
         clear H
         have H := H1
         clear H1
         by_cases c39 : 0 ≤ x14_1
         ·rw [if_pos c39] at H
          have c39b0 : decide (0 ≤ x14_1) = true := decide_eq_true c39
          clear c39
          replace H := ob_ H
          obtain ⟨⟨t300, t301, t302, t303⟩, A400, H⟩ := H
          have A40 := Aside0.mk A400
          clear A400
          by_cases c41 : x11_1.length < 4398046511104
          ·rw [if_pos c41] at H
           have LMc41 := Aside0.mk c41
           clear c41
           obtain ⟨y306, hy306⟩ : ∃ y_ : List (S52), y_ = (x11_1 ++ [(⟨(⟨t300, t301, t302⟩ : S25), (rd_T52 l1_3 x14_1).f1⟩ : S52)]) := ⟨_, rfl⟩
           replace H : (spec_AffineImage.l0 k1 a0 y306 t303 (wrap64 (x14_1 + 1)) a1_0 a1_1 a1_2 l1_3 a2 a3 0 1 t294 t295 t296) = some (r1, r2, r3, r4, r5) := by first | (rw [hy306]; with_reducible exact H) | (have H2_ := (Option.bind_some _ _).symm.trans H; rw [hy306]; with_reducible exact H2_) | (have H2_ := (Option.bind_some _ _).symm.trans H; with_reducible exact H2_) | with_reducible exact H | (rw [hy306]; exact H) | exact H
           have Ny306 := Aside0.mk hy306
           clear hy306
           have H' := Aside0.mk H
           clear H
           have hnb42 := NB285_286.out
           have hnc42 := NB286_285.out
           have hnb43 := NB285_293.out
           have hnc43 := NB293_285.out
           have hnb44 := NB285_298.out
           have hnc44 := NB298_285.out
           obtain ⟨hcz45_0, hcz45_1, hcz45_2, hcz45_3, hfz45_0, hfz45_1, hfz45_2, hfz45_3⟩ := ch4_ BK285
           try go_wp2
           replace HO_11 := Aside0.mk (Kd.R_drew HO_11.out)
           replace BK285 := Aside0.mk (blk_drew BK285.out)
           replace BK286 := Aside0.mk (blk_drew BK286.out)
           replace BK293 := Aside0.mk (blk_drew BK293.out)
           replace BK298 := Aside0.mk (blk_drew BK298.out)
           replace HB := Aside0.mk (below_drew1 HB.out)
           have p299 : 0 ≤ (x14_1 : Int) := od_
           have q299 : x14_1 < (l1_3.length : Int) := od_
           obtain ⟨ad299, e299, hx299_0, hx299_1, hx299_2, hx299_3⟩ := at_T52 HR1_3.out x14_1 p299 q299
           have hw299_3 := hx299_3
           have hw299_2 := hx299_2
           have hw299_1 := hx299_1
           have hw299_0 := hx299_0
           cases e299
           replace hx299_0 := clTr HB.out hx299_0
           replace hx299_1 := clTr HB.out hx299_1
           replace hx299_2 := clTr HB.out hx299_2
           replace hx299_3 := clTr HB.out hx299_3
           replace p299 := eq_true p299
           replace q299 := eq_true q299
           refine start_ (n := 15) (S := fun w' => w'.cell? ⟨gb293, 0, none⟩ = some (.int .i64 a2) ∧ w'.cell? ⟨gb293, 1, none⟩ = some (.int .i64 a3) ∧ w'.cell? ⟨gb293, 2, none⟩ = some (.int .i64 0) ∧ w'.cell? ⟨gb293, 3, none⟩ = some (.int .i64 1) ∧ w'.cell? ⟨gb285, 0, none⟩ = some (.int .i64 a1_0) ∧ w'.cell? ⟨gb285, 1, none⟩ = some (.int .i64 a1_1) ∧ w'.cell? ⟨gb285, 2, none⟩ = some (.int .i64 a1_2) ∧ w'.cell? ⟨gb285, 3, none⟩ = some (.slice (some ad299) l1_3.length c1_3) ∧ w'.cell? (ad299.add ((x14_1).toNat * 4)) = some (.int .i64 ((rd_T52 l1_3 x14_1).f0.f0)) ∧ w'.cell? ⟨(ad299.add ((x14_1).toNat * 4)).block, (ad299.add ((x14_1).toNat * 4)).off + 1, none⟩ = some (.int .i64 ((rd_T52 l1_3 x14_1).f0.f1)) ∧ w'.cell? ⟨(ad299.add ((x14_1).toNat * 4)).block, (ad299.add ((x14_1).toNat * 4)).off + 2, none⟩ = some (.int .i64 ((rd_T52 l1_3 x14_1).f0.f2)) ∧ w'.cell? ⟨(ad299.add ((x14_1).toNat * 4)).block, (ad299.add ((x14_1).toNat * 4)).off + 3, none⟩ = some (.int .i64 ((rd_T52 l1_3 x14_1).f1))) (ds := []) (bv_ 15 0) (by kernel_rfl) rfl rfl ⟨cz_ BK293 0, cz_ BK293 1, cz_ BK293 2, cz_ BK293 3, cz_ BK285 0, cz_ BK285 1, cz_ BK285 2, cz_ BK285 3, (clTr HB.out hw299_0 :), (clTr HB.out hw299_1 :), (clTr HB.out hw299_2 :), (clTr HB.out hw299_3 :)⟩ (fun hHeld => ?_); refine with_tabW spec_AffineImage.tab10 spec_AffineImage.bits10 (fun HT_ HW_ => ?_)
           generalize wr.drew = w46 at HO_11 BK285 BK286 BK293 BK298 HB hx299_0 hx299_1 hx299_2 hx299_3 hHeld ⊢
           refine pu_ HT_ 0 (some 64) (bv_ 15 1) ?_
           refine pu_ HT_ 2 (some 66) (bv_ 15 5) ?_
           refine pu_ HT_ 4 (some 68) (bv_ 15 21) ?_
           refine ta_ HT_ HW_ 1 (some 65) (bv_ 15 23) hHeld ?_ (hy := by rintro w' ⟨s0, s1, s2, s3, s4, s5, s6, s7, s8, s9, s10, s11⟩; go_simp; with_reducible rfl)
           refine ta_ HT_ HW_ 3 (some 67) (bv_ 15 31) hHeld ?_ (hy := by rintro w' ⟨s0, s1, s2, s3, s4, s5, s6, s7, s8, s9, s10, s11⟩; go_simp; with_reducible rfl)
           refine pu_ HT_ 5 (some 69) (bv_ 15 63) ?_
           refine pu_ HT_ 6 (some 70) (bv_ 15 127) ?_
           refine ta_ HT_ HW_ 7 (some 71) (bv_ 15 255) hHeld ?_ (hy := by rintro w' ⟨s0, s1, s2, s3, s4, s5, s6, s7, s8, s9, s10, s11⟩; go_simp; with_reducible rfl)
           refine join_ (σ := Nat) 2 (bv_ 15 8191) (fun s_ => [(72, .tuple #[.agg #[.int .i64 t300, .int .i64 t301, .int .i64 t302], .bool t303]), (15, .pointer (some ⟨s_, 0, none⟩)), (63, .tuple #[.agg #[.int .i64 t300, .int .i64 t301, .int .i64 t302], .bool t303]), (73, .agg #[.int .i64 t300, .int .i64 t301, .int .i64 t302]), (74, .bool t303)]) (fun s_ w' => (w'.cell? ⟨gb293, 0, none⟩ = some (.int .i64 a2) ∧ w'.cell? ⟨gb293, 1, none⟩ = some (.int .i64 a3) ∧ w'.cell? ⟨gb293, 2, none⟩ = some (.int .i64 0) ∧ w'.cell? ⟨gb293, 3, none⟩ = some (.int .i64 1) ∧ w'.cell? ⟨gb285, 0, none⟩ = some (.int .i64 a1_0) ∧ w'.cell? ⟨gb285, 1, none⟩ = some (.int .i64 a1_1) ∧ w'.cell? ⟨gb285, 2, none⟩ = some (.int .i64 a1_2) ∧ w'.cell? ⟨gb285, 3, none⟩ = some (.slice (some ad299) l1_3.length c1_3) ∧ w'.cell? (ad299.add ((x14_1).toNat * 4)) = some (.int .i64 ((rd_T52 l1_3 x14_1).f0.f0)) ∧ w'.cell? ⟨(ad299.add ((x14_1).toNat * 4)).block, (ad299.add ((x14_1).toNat * 4)).off + 1, none⟩ = some (.int .i64 ((rd_T52 l1_3 x14_1).f0.f1)) ∧ w'.cell? ⟨(ad299.add ((x14_1).toNat * 4)).block, (ad299.add ((x14_1).toNat * 4)).off + 2, none⟩ = some (.int .i64 ((rd_T52 l1_3 x14_1).f0.f2)) ∧ w'.cell? ⟨(ad299.add ((x14_1).toNat * 4)).block, (ad299.add ((x14_1).toNat * 4)).off + 3, none⟩ = some (.int .i64 ((rd_T52 l1_3 x14_1).f1))) ∧ (Kd.R k52 52 w' w.heap.size (fun _ => True) u11 x11_1) ∧ (w'.heap[gb285]? = some (.cells #[.int .i64 a1_0, .int .i64 a1_1, .int .i64 a1_2, .slice (some ad299) l1_3.length c1_3] 28 (0, 0))) ∧ (w'.heap[gb286]? = some (.cells #[.int .i64 0, .int .i64 0, .int .i64 0, .slice none 0 0] 28 (0, 0))) ∧ (w'.heap[gb293]? = some (.cells #[.int .i64 a2, .int .i64 a3, .int .i64 0, .int .i64 1] 83 (0, 0))) ∧ (w'.heap[gb298]? = some (.cells #[.int .i64 t294, .int .i64 t295, .int .i64 t296] 25 (0, 0))) ∧ (w'.heap[s_]? = some (.cells #[.int .i64 0, .int .i64 0, .int .i64 0] 25 (0, 0))) ∧ (w.heap.size ≤ s_) ∧ (w.heap.size ≤ s_) ∧ (gb285 ≠ s_) ∧ (s_ ≠ gb285) ∧ (gb286 ≠ s_) ∧ (s_ ≠ gb286) ∧ (gb293 ≠ s_) ∧ (s_ ≠ gb293) ∧ (gb298 ≠ s_) ∧ (s_ ≠ gb298) ∧ (Below w.heap.size w w')) ?_ ?_
           rotate_left
           ·intro hCont
            refine two_ (i := 8) (j := 12) (Ni := some 72) (Nj := some 15) (bv_ 15 511) (bv_ 15 4351) rfl rfl rfl rfl (two_of HT_.out (by kernel_rfl)) (by decide) (by decide) (fun K hK => ?_) (fun K hK => ?_)
            ·skip
             refine goes_ Try.func52 (by kernel_rfl) rfl #[.int .i64 a0, .agg #[.int .i64 a2, .int .i64 a3, .int .i64 0, .int .i64 1], .agg #[.int .i64 ((rd_T52 l1_3 x14_1).f0.f0), .int .i64 ((rd_T52 l1_3 x14_1).f0.f1), .int .i64 ((rd_T52 l1_3 x14_1).f0.f2)]] (by rfl) rfl rfl (by (try simp only [List.map_toArray, List.map_cons, List.map_nil]); first | done | rfl | (simp only [List.length_drop, List.length_take]; rfl)) ?_
             with_reducible refine (spec_l04Move.calls k1 a0 a2 a3 0 1 ((rd_T52 l1_3 x14_1).f0.f0) ((rd_T52 l1_3 x14_1).f0.f1) ((rd_T52 l1_3 x14_1).f0.f2) t300 t301 t302 t303 _ A40.out).mono ?_
             rintro e w47 ⟨rfl, hb⟩
             refine ⟨_, rfl, ?_⟩
             replace HO_11 := Aside0.mk (Kd.R_below (ra_ HO_11.out) hb)
             replace BK285 := bb_ BK285 hb
             replace BK286 := bb_ BK286 hb
             replace BK293 := bb_ BK293 hb
             replace BK298 := bb_ BK298 hb
             replace HB := bt_ HB hb
             (try clear hb)
             (try clear hb2)
             (try clear hk)
             (try clear hi)
             refine hK.out _ _ ⟨cz_ BK293 0, cz_ BK293 1, cz_ BK293 2, cz_ BK293 3, cz_ BK285 0, cz_ BK285 1, cz_ BK285 2, cz_ BK285 3, (clTr HB.out hw299_0 :), (clTr HB.out hw299_1 :), (clTr HB.out hw299_2 :), (clTr HB.out hw299_3 :)⟩ (fun hHeld => ?_)
             clear hK K
             refine norm_ (a' := ?_) ?_ ?_
             rotate_left
             ·show Act.put _ (some 72) _ = _
              simp only [Act.put, lstS, lstZ, lstC, i64_w, i32_w]
              rfl
             refine pu_ HT_ 9 (some 63) (bv_ 15 1023) ?_
             refine pu_ HT_ 10 (some 73) (bv_ 15 2047) ?_
             refine pu_ HT_ 11 (some 74) (bv_ 15 4095) ?_
             refine one_ (i := 12) (N := some 15) (bv_ 15 8191) rfl rfl (one_of HT_.out (by kernel_rfl)) (by decide) (fun K hK => ?_)
             refine box_step ?hg (N := 15) ?hd (cs := #[.int .i64 0, .int .i64 0, .int .i64 0]) (t := 25) ?hr ?_; (case hd => rfl); (case hg => rfl); (case hr => first | (go_simp; done) | (go_simp; rfl))
             intro gb304 hg w48 hbox hb
             have BK304 := Aside0.mk (hbox)
             have GW304 := bs_ HB hg
             have GE304 := bs_ HB hg
             have NB285_304 := bm_ BK285 hg
             have NB304_285 := bn_ BK285 hg
             have NB286_304 := bm_ BK286 hg
             have NB304_286 := bn_ BK286 hg
             have NB293_304 := bm_ BK293 hg
             have NB304_293 := bn_ BK293 hg
             have NB298_304 := bm_ BK298 hg
             have NB304_298 := bn_ BK298 hg
             replace HO_11 := Aside0.mk (Kd.R_below (ra_ HO_11.out) hb)
             replace BK285 := bb_ BK285 hb
             replace BK286 := bb_ BK286 hb
             replace BK293 := bb_ BK293 hb
             replace BK298 := bb_ BK298 hb
             replace HB := bt_ HB hb
             clear hb hbox hg
             refine hK.out _ _ ⟨cz_ BK293 0, cz_ BK293 1, cz_ BK293 2, cz_ BK293 3, cz_ BK285 0, cz_ BK285 1, cz_ BK285 2, cz_ BK285 3, (clTr HB.out hw299_0 :), (clTr HB.out hw299_1 :), (clTr HB.out hw299_2 :), (clTr HB.out hw299_3 :)⟩ (fun hHeld => ?_)
             clear hK K
             refine norm_ (a' := ?_) ?_ ?_
             rotate_left
             ·show Act.put _ (some 15) _ = _
              simp only [Act.put, lstS, lstZ, lstC, i64_w, i32_w]
              rfl
             exact norm_ (by simp only [putAll, Act.put, lstS, lstZ, lstC]) (hCont (gb304) _ ⟨hHeld, (ra_ HO_11.out), (bl_ BK285).out, (bl_ BK286).out, (bl_ BK293).out, (bl_ BK298).out, (bl_ BK304).out, GW304.out, GE304.out, NB285_304.out, NB304_285.out, NB286_304.out, NB304_286.out, NB293_304.out, NB304_293.out, NB298_304.out, NB304_298.out, (bw_ HB).out⟩)
            ·skip
             refine box_step ?hg (N := 15) ?hd (cs := #[.int .i64 0, .int .i64 0, .int .i64 0]) (t := 25) ?hr ?_; (case hd => rfl); (case hg => rfl); (case hr => first | (go_simp; done) | (go_simp; rfl))
             intro gb304 hg w47 hbox hb
             have BK304 := Aside0.mk (hbox)
             have GW304 := bs_ HB hg
             have GE304 := bs_ HB hg
             have NB285_304 := bm_ BK285 hg
             have NB304_285 := bn_ BK285 hg
             have NB286_304 := bm_ BK286 hg
             have NB304_286 := bn_ BK286 hg
             have NB293_304 := bm_ BK293 hg
             have NB304_293 := bn_ BK293 hg
             have NB298_304 := bm_ BK298 hg
             have NB304_298 := bn_ BK298 hg
             replace HO_11 := Aside0.mk (Kd.R_below (ra_ HO_11.out) hb)
             replace BK285 := bb_ BK285 hb
             replace BK286 := bb_ BK286 hb
             replace BK293 := bb_ BK293 hb
             replace BK298 := bb_ BK298 hb
             replace HB := bt_ HB hb
             clear hb hbox hg
             refine hK.out _ _ ⟨cz_ BK293 0, cz_ BK293 1, cz_ BK293 2, cz_ BK293 3, cz_ BK285 0, cz_ BK285 1, cz_ BK285 2, cz_ BK285 3, (clTr HB.out hw299_0 :), (clTr HB.out hw299_1 :), (clTr HB.out hw299_2 :), (clTr HB.out hw299_3 :)⟩ (fun hHeld => ?_)
             clear hK K
             refine norm_ (a' := ?_) ?_ ?_
             rotate_left
             ·show Act.put _ (some 15) _ = _
              simp only [Act.put, lstS, lstZ, lstC, i64_w, i32_w]
              rfl
             refine one_ (i := 8) (N := some 72) (bv_ 15 4607) rfl rfl (one_of HT_.out (by kernel_rfl)) (by decide) (fun K hK => ?_)
             refine goes_ Try.func52 (by kernel_rfl) rfl #[.int .i64 a0, .agg #[.int .i64 a2, .int .i64 a3, .int .i64 0, .int .i64 1], .agg #[.int .i64 ((rd_T52 l1_3 x14_1).f0.f0), .int .i64 ((rd_T52 l1_3 x14_1).f0.f1), .int .i64 ((rd_T52 l1_3 x14_1).f0.f2)]] (by rfl) rfl rfl (by (try simp only [List.map_toArray, List.map_cons, List.map_nil]); first | done | rfl | (simp only [List.length_drop, List.length_take]; rfl)) ?_
             with_reducible refine (spec_l04Move.calls k1 a0 a2 a3 0 1 ((rd_T52 l1_3 x14_1).f0.f0) ((rd_T52 l1_3 x14_1).f0.f1) ((rd_T52 l1_3 x14_1).f0.f2) t300 t301 t302 t303 _ A40.out).mono ?_
             rintro e w48 ⟨rfl, hb⟩
             refine ⟨_, rfl, ?_⟩
             replace HO_11 := Aside0.mk (Kd.R_below (ra_ HO_11.out) hb)
             replace BK285 := bb_ BK285 hb
             replace BK286 := bb_ BK286 hb
             replace BK293 := bb_ BK293 hb
             replace BK298 := bb_ BK298 hb
             replace BK304 := bb_ BK304 hb
             replace HB := bt_ HB hb
             (try clear hb)
             (try clear hb2)
             (try clear hk)
             (try clear hi)
             refine hK.out _ _ ⟨cz_ BK293 0, cz_ BK293 1, cz_ BK293 2, cz_ BK293 3, cz_ BK285 0, cz_ BK285 1, cz_ BK285 2, cz_ BK285 3, (clTr HB.out hw299_0 :), (clTr HB.out hw299_1 :), (clTr HB.out hw299_2 :), (clTr HB.out hw299_3 :)⟩ (fun hHeld => ?_)
             clear hK K
             refine norm_ (a' := ?_) ?_ ?_
             rotate_left
             ·show Act.put _ (some 72) _ = _
              simp only [Act.put, lstS, lstZ, lstC, i64_w, i32_w]
              rfl
             refine pu_ HT_ 9 (some 63) (bv_ 15 5119) ?_
             refine pu_ HT_ 10 (some 73) (bv_ 15 6143) ?_
             refine pu_ HT_ 11 (some 74) (bv_ 15 8191) ?_
             exact norm_ (by simp only [putAll, Act.put, lstS, lstZ, lstC]) (hCont (gb304) _ ⟨hHeld, (ra_ HO_11.out), (bl_ BK285).out, (bl_ BK286).out, (bl_ BK293).out, (bl_ BK298).out, (bl_ BK304).out, GW304.out, GE304.out, NB285_304.out, NB304_285.out, NB286_304.out, NB304_286.out, NB293_304.out, NB304_293.out, NB298_304.out, NB304_298.out, (bw_ HB).out⟩)
           rintro gb304 w49 ⟨hS_, h0_, h1_, h2_, h3_, h4_, h5_, h6_, h7_, h8_, h9_, h10_, h11_, h12_, h13_, h14_, h15_, h16_⟩
           have n0_ : Aside0 (Kd.R k52 52 w49 w.heap.size (fun _ => True) u11 x11_1) := ⟨h0_⟩
           have n1_ : Aside0 (w49.heap[gb285]? = some (.cells #[.int .i64 a1_0, .int .i64 a1_1, .int .i64 a1_2, .slice (some ad299) l1_3.length c1_3] 28 (0, 0))) := ⟨h1_⟩
           have n2_ : Aside0 (w49.heap[gb286]? = some (.cells #[.int .i64 0, .int .i64 0, .int .i64 0, .slice none 0 0] 28 (0, 0))) := ⟨h2_⟩
           have n3_ : Aside0 (w49.heap[gb293]? = some (.cells #[.int .i64 a2, .int .i64 a3, .int .i64 0, .int .i64 1] 83 (0, 0))) := ⟨h3_⟩
           have n4_ : Aside0 (w49.heap[gb298]? = some (.cells #[.int .i64 t294, .int .i64 t295, .int .i64 t296] 25 (0, 0))) := ⟨h4_⟩
           have n5_ : Aside0 (w49.heap[gb304]? = some (.cells #[.int .i64 0, .int .i64 0, .int .i64 0] 25 (0, 0))) := ⟨h5_⟩
           have n6_ : Aside0 (w.heap.size ≤ gb304) := ⟨h6_⟩
           have n7_ : Aside0 (w.heap.size ≤ gb304) := ⟨h7_⟩
           have n8_ : Aside0 (gb285 ≠ gb304) := ⟨h8_⟩
           have n9_ : Aside0 (gb304 ≠ gb285) := ⟨h9_⟩
           have n10_ : Aside0 (gb286 ≠ gb304) := ⟨h10_⟩
           have n11_ : Aside0 (gb304 ≠ gb286) := ⟨h11_⟩
           have n12_ : Aside0 (gb293 ≠ gb304) := ⟨h12_⟩
           have n13_ : Aside0 (gb304 ≠ gb293) := ⟨h13_⟩
           have n14_ : Aside0 (gb298 ≠ gb304) := ⟨h14_⟩
           have n15_ : Aside0 (gb304 ≠ gb298) := ⟨h15_⟩
           have n16_ : Aside0 (Below w.heap.size w w49) := ⟨h16_⟩
           clear HO_11
           clear BK285
           clear BK286
           clear BK293
           clear BK298
           clear HB
           clear h0_ h1_ h2_ h3_ h4_ h5_ h6_ h7_ h8_ h9_ h10_ h11_ h12_ h13_ h14_ h15_ h16_
           have HO_11 := n0_
           have BK285 := n1_
           have BK286 := n2_
           have BK293 := n3_
           have BK298 := n4_
           have BK304 := n5_
           have GW304 := n6_
           have GE304 := n7_
           have NB285_304 := n8_
           have NB304_285 := n9_
           have NB286_304 := n10_
           have NB304_286 := n11_
           have NB293_304 := n12_
           have NB304_293 := n13_
           have NB298_304 := n14_
           have NB304_298 := n15_
           have HB := n16_
           clear n0_ n1_ n2_ n3_ n4_ n5_ n6_ n7_ n8_ n9_ n10_ n11_ n12_ n13_ n14_ n15_ n16_
           have hHeld : w49.cell? ⟨gb293, 0, none⟩ = some (.int .i64 a2) ∧ w49.cell? ⟨gb293, 1, none⟩ = some (.int .i64 a3) ∧ w49.cell? ⟨gb293, 2, none⟩ = some (.int .i64 0) ∧ w49.cell? ⟨gb293, 3, none⟩ = some (.int .i64 1) ∧ w49.cell? ⟨gb285, 0, none⟩ = some (.int .i64 a1_0) ∧ w49.cell? ⟨gb285, 1, none⟩ = some (.int .i64 a1_1) ∧ w49.cell? ⟨gb285, 2, none⟩ = some (.int .i64 a1_2) ∧ w49.cell? ⟨gb285, 3, none⟩ = some (.slice (some ad299) l1_3.length c1_3) ∧ w49.cell? (ad299.add ((x14_1).toNat * 4)) = some (.int .i64 ((rd_T52 l1_3 x14_1).f0.f0)) ∧ w49.cell? ⟨(ad299.add ((x14_1).toNat * 4)).block, (ad299.add ((x14_1).toNat * 4)).off + 1, none⟩ = some (.int .i64 ((rd_T52 l1_3 x14_1).f0.f1)) ∧ w49.cell? ⟨(ad299.add ((x14_1).toNat * 4)).block, (ad299.add ((x14_1).toNat * 4)).off + 2, none⟩ = some (.int .i64 ((rd_T52 l1_3 x14_1).f0.f2)) ∧ w49.cell? ⟨(ad299.add ((x14_1).toNat * 4)).block, (ad299.add ((x14_1).toNat * 4)).off + 3, none⟩ = some (.int .i64 ((rd_T52 l1_3 x14_1).f1)) := hS_
           refine norm_ (a' := ?_) ?_ ?_
           rotate_left
           ·simp only [putAll, Act.put, lstS, lstZ, lstC]
            rfl
           refine one_ (i := 13) (N := none) (bv_ 15 16383) rfl rfl (one_of HT_.out (by kernel_rfl)) (by decide) (fun K hK => ?_)
           have hs50 : w49.cell? ⟨gb304, 0, none⟩ = some (.int .i64 0) := (blk_cell BK304.out 0).trans rfl
           have hfs50 := blk_frozen BK304.out 0
           have hns50_0 := NB285_304.out
           have hns50_1 := NB286_304.out
           have hns50_2 := NB293_304.out
           have hns50_3 := NB298_304.out
           have hms50_0 := NB304_285.out
           have hms50_1 := NB304_286.out
           have hms50_2 := NB304_293.out
           have hms50_3 := NB304_298.out
           have hs51 : w49.cell? ⟨gb304, 1, none⟩ = some (.int .i64 0) := (blk_cell BK304.out 1).trans rfl
           have hfs51 := blk_frozen BK304.out 1
           have hns51_0 := NB285_304.out
           have hns51_1 := NB286_304.out
           have hns51_2 := NB293_304.out
           have hns51_3 := NB298_304.out
           have hms51_0 := NB304_285.out
           have hms51_1 := NB304_286.out
           have hms51_2 := NB304_293.out
           have hms51_3 := NB304_298.out
           have hs52 : w49.cell? ⟨gb304, 2, none⟩ = some (.int .i64 0) := (blk_cell BK304.out 2).trans rfl
           have hfs52 := blk_frozen BK304.out 2
           have hns52_0 := NB285_304.out
           have hns52_1 := NB286_304.out
           have hns52_2 := NB293_304.out
           have hns52_3 := NB298_304.out
           have hms52_0 := NB304_285.out
           have hms52_1 := NB304_286.out
           have hms52_2 := NB304_293.out
           have hms52_3 := NB304_298.out
           refine skip_ (w1 := ?_) (by rfl) rfl ?_ ?_
           rotate_left
           ·go_simp
            rfl
           refine hK.out _ _ ⟨((cell_far (p := ⟨gb304, _, none⟩) NB293_304.out _).trans (((cell_far (p := ⟨gb304, _, none⟩) NB293_304.out _).trans (((cell_far (p := ⟨gb304, _, none⟩) NB293_304.out _).trans (hHeld.1)))))), ((cell_far (p := ⟨gb304, _, none⟩) NB293_304.out _).trans (((cell_far (p := ⟨gb304, _, none⟩) NB293_304.out _).trans (((cell_far (p := ⟨gb304, _, none⟩) NB293_304.out _).trans (hHeld.2.1)))))), ((cell_far (p := ⟨gb304, _, none⟩) NB293_304.out _).trans (((cell_far (p := ⟨gb304, _, none⟩) NB293_304.out _).trans (((cell_far (p := ⟨gb304, _, none⟩) NB293_304.out _).trans (hHeld.2.2.1)))))), ((cell_far (p := ⟨gb304, _, none⟩) NB293_304.out _).trans (((cell_far (p := ⟨gb304, _, none⟩) NB293_304.out _).trans (((cell_far (p := ⟨gb304, _, none⟩) NB293_304.out _).trans (hHeld.2.2.2.1)))))), ((cell_far (p := ⟨gb304, _, none⟩) NB285_304.out _).trans (((cell_far (p := ⟨gb304, _, none⟩) NB285_304.out _).trans (((cell_far (p := ⟨gb304, _, none⟩) NB285_304.out _).trans (hHeld.2.2.2.2.1)))))), ((cell_far (p := ⟨gb304, _, none⟩) NB285_304.out _).trans (((cell_far (p := ⟨gb304, _, none⟩) NB285_304.out _).trans (((cell_far (p := ⟨gb304, _, none⟩) NB285_304.out _).trans (hHeld.2.2.2.2.2.1)))))), ((cell_far (p := ⟨gb304, _, none⟩) NB285_304.out _).trans (((cell_far (p := ⟨gb304, _, none⟩) NB285_304.out _).trans (((cell_far (p := ⟨gb304, _, none⟩) NB285_304.out _).trans (hHeld.2.2.2.2.2.2.1)))))), ((cell_far (p := ⟨gb304, _, none⟩) NB285_304.out _).trans (((cell_far (p := ⟨gb304, _, none⟩) NB285_304.out _).trans (((cell_far (p := ⟨gb304, _, none⟩) NB285_304.out _).trans (hHeld.2.2.2.2.2.2.2.1)))))), ((cell_far (p := ⟨gb304, _, none⟩) (by first | exact Nat.ne_of_lt (Nat.lt_of_lt_of_le (by have := World.block_lt_of_cell? _ _ hw299_0; first | rwa [add_block] at this | exact this) GW304.out) | (rw [add_block]; exact Nat.ne_of_lt (Nat.lt_of_lt_of_le (by have := World.block_lt_of_cell? _ _ hw299_0; first | rwa [add_block] at this | exact this) GW304.out)) | (show (Addr.add _ _).block ≠ _; rw [add_block]; exact Nat.ne_of_lt (Nat.lt_of_lt_of_le (by have := World.block_lt_of_cell? _ _ hw299_0; first | rwa [add_block] at this | exact this) GW304.out)) | (dsimp only; exact Nat.ne_of_lt (Nat.lt_of_lt_of_le (by have := World.block_lt_of_cell? _ _ hw299_0; first | rwa [add_block] at this | exact this) GW304.out))) _).trans (((cell_far (p := ⟨gb304, _, none⟩) (by first | exact Nat.ne_of_lt (Nat.lt_of_lt_of_le (by have := World.block_lt_of_cell? _ _ hw299_0; first | rwa [add_block] at this | exact this) GW304.out) | (rw [add_block]; exact Nat.ne_of_lt (Nat.lt_of_lt_of_le (by have := World.block_lt_of_cell? _ _ hw299_0; first | rwa [add_block] at this | exact this) GW304.out)) | (show (Addr.add _ _).block ≠ _; rw [add_block]; exact Nat.ne_of_lt (Nat.lt_of_lt_of_le (by have := World.block_lt_of_cell? _ _ hw299_0; first | rwa [add_block] at this | exact this) GW304.out)) | (dsimp only; exact Nat.ne_of_lt (Nat.lt_of_lt_of_le (by have := World.block_lt_of_cell? _ _ hw299_0; first | rwa [add_block] at this | exact this) GW304.out))) _).trans (((cell_far (p := ⟨gb304, _, none⟩) (by first | exact Nat.ne_of_lt (Nat.lt_of_lt_of_le (by have := World.block_lt_of_cell? _ _ hw299_0; first | rwa [add_block] at this | exact this) GW304.out) | (rw [add_block]; exact Nat.ne_of_lt (Nat.lt_of_lt_of_le (by have := World.block_lt_of_cell? _ _ hw299_0; first | rwa [add_block] at this | exact this) GW304.out)) | (show (Addr.add _ _).block ≠ _; rw [add_block]; exact Nat.ne_of_lt (Nat.lt_of_lt_of_le (by have := World.block_lt_of_cell? _ _ hw299_0; first | rwa [add_block] at this | exact this) GW304.out)) | (dsimp only; exact Nat.ne_of_lt (Nat.lt_of_lt_of_le (by have := World.block_lt_of_cell? _ _ hw299_0; first | rwa [add_block] at this | exact this) GW304.out))) _).trans (hHeld.2.2.2.2.2.2.2.2.1)))))), ((cell_far (p := ⟨gb304, _, none⟩) (by first | exact Nat.ne_of_lt (Nat.lt_of_lt_of_le (by have := World.block_lt_of_cell? _ _ hw299_1; first | rwa [add_block] at this | exact this) GW304.out) | (rw [add_block]; exact Nat.ne_of_lt (Nat.lt_of_lt_of_le (by have := World.block_lt_of_cell? _ _ hw299_1; first | rwa [add_block] at this | exact this) GW304.out)) | (show (Addr.add _ _).block ≠ _; rw [add_block]; exact Nat.ne_of_lt (Nat.lt_of_lt_of_le (by have := World.block_lt_of_cell? _ _ hw299_1; first | rwa [add_block] at this | exact this) GW304.out)) | (dsimp only; exact Nat.ne_of_lt (Nat.lt_of_lt_of_le (by have := World.block_lt_of_cell? _ _ hw299_1; first | rwa [add_block] at this | exact this) GW304.out))) _).trans (((cell_far (p := ⟨gb304, _, none⟩) (by first | exact Nat.ne_of_lt (Nat.lt_of_lt_of_le (by have := World.block_lt_of_cell? _ _ hw299_1; first | rwa [add_block] at this | exact this) GW304.out) | (rw [add_block]; exact Nat.ne_of_lt (Nat.lt_of_lt_of_le (by have := World.block_lt_of_cell? _ _ hw299_1; first | rwa [add_block] at this | exact this) GW304.out)) | (show (Addr.add _ _).block ≠ _; rw [add_block]; exact Nat.ne_of_lt (Nat.lt_of_lt_of_le (by have := World.block_lt_of_cell? _ _ hw299_1; first | rwa [add_block] at this | exact this) GW304.out)) | (dsimp only; exact Nat.ne_of_lt (Nat.lt_of_lt_of_le (by have := World.block_lt_of_cell? _ _ hw299_1; first | rwa [add_block] at this | exact this) GW304.out))) _).trans (((cell_far (p := ⟨gb304, _, none⟩) (by first | exact Nat.ne_of_lt (Nat.lt_of_lt_of_le (by have := World.block_lt_of_cell? _ _ hw299_1; first | rwa [add_block] at this | exact this) GW304.out) | (rw [add_block]; exact Nat.ne_of_lt (Nat.lt_of_lt_of_le (by have := World.block_lt_of_cell? _ _ hw299_1; first | rwa [add_block] at this | exact this) GW304.out)) | (show (Addr.add _ _).block ≠ _; rw [add_block]; exact Nat.ne_of_lt (Nat.lt_of_lt_of_le (by have := World.block_lt_of_cell? _ _ hw299_1; first | rwa [add_block] at this | exact this) GW304.out)) | (dsimp only; exact Nat.ne_of_lt (Nat.lt_of_lt_of_le (by have := World.block_lt_of_cell? _ _ hw299_1; first | rwa [add_block] at this | exact this) GW304.out))) _).trans (hHeld.2.2.2.2.2.2.2.2.2.1)))))), ((cell_far (p := ⟨gb304, _, none⟩) (by first | exact Nat.ne_of_lt (Nat.lt_of_lt_of_le (by have := World.block_lt_of_cell? _ _ hw299_2; first | rwa [add_block] at this | exact this) GW304.out) | (rw [add_block]; exact Nat.ne_of_lt (Nat.lt_of_lt_of_le (by have := World.block_lt_of_cell? _ _ hw299_2; first | rwa [add_block] at this | exact this) GW304.out)) | (show (Addr.add _ _).block ≠ _; rw [add_block]; exact Nat.ne_of_lt (Nat.lt_of_lt_of_le (by have := World.block_lt_of_cell? _ _ hw299_2; first | rwa [add_block] at this | exact this) GW304.out)) | (dsimp only; exact Nat.ne_of_lt (Nat.lt_of_lt_of_le (by have := World.block_lt_of_cell? _ _ hw299_2; first | rwa [add_block] at this | exact this) GW304.out))) _).trans (((cell_far (p := ⟨gb304, _, none⟩) (by first | exact Nat.ne_of_lt (Nat.lt_of_lt_of_le (by have := World.block_lt_of_cell? _ _ hw299_2; first | rwa [add_block] at this | exact this) GW304.out) | (rw [add_block]; exact Nat.ne_of_lt (Nat.lt_of_lt_of_le (by have := World.block_lt_of_cell? _ _ hw299_2; first | rwa [add_block] at this | exact this) GW304.out)) | (show (Addr.add _ _).block ≠ _; rw [add_block]; exact Nat.ne_of_lt (Nat.lt_of_lt_of_le (by have := World.block_lt_of_cell? _ _ hw299_2; first | rwa [add_block] at this | exact this) GW304.out)) | (dsimp only; exact Nat.ne_of_lt (Nat.lt_of_lt_of_le (by have := World.block_lt_of_cell? _ _ hw299_2; first | rwa [add_block] at this | exact this) GW304.out))) _).trans (((cell_far (p := ⟨gb304, _, none⟩) (by first | exact Nat.ne_of_lt (Nat.lt_of_lt_of_le (by have := World.block_lt_of_cell? _ _ hw299_2; first | rwa [add_block] at this | exact this) GW304.out) | (rw [add_block]; exact Nat.ne_of_lt (Nat.lt_of_lt_of_le (by have := World.block_lt_of_cell? _ _ hw299_2; first | rwa [add_block] at this | exact this) GW304.out)) | (show (Addr.add _ _).block ≠ _; rw [add_block]; exact Nat.ne_of_lt (Nat.lt_of_lt_of_le (by have := World.block_lt_of_cell? _ _ hw299_2; first | rwa [add_block] at this | exact this) GW304.out)) | (dsimp only; exact Nat.ne_of_lt (Nat.lt_of_lt_of_le (by have := World.block_lt_of_cell? _ _ hw299_2; first | rwa [add_block] at this | exact this) GW304.out))) _).trans (hHeld.2.2.2.2.2.2.2.2.2.2.1)))))), ((cell_far (p := ⟨gb304, _, none⟩) (by first | exact Nat.ne_of_lt (Nat.lt_of_lt_of_le (by have := World.block_lt_of_cell? _ _ hw299_3; first | rwa [add_block] at this | exact this) GW304.out) | (rw [add_block]; exact Nat.ne_of_lt (Nat.lt_of_lt_of_le (by have := World.block_lt_of_cell? _ _ hw299_3; first | rwa [add_block] at this | exact this) GW304.out)) | (show (Addr.add _ _).block ≠ _; rw [add_block]; exact Nat.ne_of_lt (Nat.lt_of_lt_of_le (by have := World.block_lt_of_cell? _ _ hw299_3; first | rwa [add_block] at this | exact this) GW304.out)) | (dsimp only; exact Nat.ne_of_lt (Nat.lt_of_lt_of_le (by have := World.block_lt_of_cell? _ _ hw299_3; first | rwa [add_block] at this | exact this) GW304.out))) _).trans (((cell_far (p := ⟨gb304, _, none⟩) (by first | exact Nat.ne_of_lt (Nat.lt_of_lt_of_le (by have := World.block_lt_of_cell? _ _ hw299_3; first | rwa [add_block] at this | exact this) GW304.out) | (rw [add_block]; exact Nat.ne_of_lt (Nat.lt_of_lt_of_le (by have := World.block_lt_of_cell? _ _ hw299_3; first | rwa [add_block] at this | exact this) GW304.out)) | (show (Addr.add _ _).block ≠ _; rw [add_block]; exact Nat.ne_of_lt (Nat.lt_of_lt_of_le (by have := World.block_lt_of_cell? _ _ hw299_3; first | rwa [add_block] at this | exact this) GW304.out)) | (dsimp only; exact Nat.ne_of_lt (Nat.lt_of_lt_of_le (by have := World.block_lt_of_cell? _ _ hw299_3; first | rwa [add_block] at this | exact this) GW304.out))) _).trans (((cell_far (p := ⟨gb304, _, none⟩) (by first | exact Nat.ne_of_lt (Nat.lt_of_lt_of_le (by have := World.block_lt_of_cell? _ _ hw299_3; first | rwa [add_block] at this | exact this) GW304.out) | (rw [add_block]; exact Nat.ne_of_lt (Nat.lt_of_lt_of_le (by have := World.block_lt_of_cell? _ _ hw299_3; first | rwa [add_block] at this | exact this) GW304.out)) | (show (Addr.add _ _).block ≠ _; rw [add_block]; exact Nat.ne_of_lt (Nat.lt_of_lt_of_le (by have := World.block_lt_of_cell? _ _ hw299_3; first | rwa [add_block] at this | exact this) GW304.out)) | (dsimp only; exact Nat.ne_of_lt (Nat.lt_of_lt_of_le (by have := World.block_lt_of_cell? _ _ hw299_3; first | rwa [add_block] at this | exact this) GW304.out))) _).trans (hHeld.2.2.2.2.2.2.2.2.2.2.2))))))⟩ (fun hHeld => ?_)
           clear hK K
           refine pu_ HT_ 14 (some 16) (bv_ 15 32767) ?_
           refine done_ (done_of HT_.out (by kernel_rfl)) ?_
           try go_wp2
           have n0_ : Aside0 (Kd.R k52 52 (((w49.setCell ⟨gb304, 0, none⟩ (.int .i64 t300)).setCell ⟨gb304, 1, none⟩ (.int .i64 t301)).setCell ⟨gb304, 2, none⟩ (.int .i64 t302)) w.heap.size (fun _ => True) u11 x11_1) := ⟨by (with_reducible repeat (first | apply Kd.R_alloc | apply Kd.R_drewN | apply Kd.R_drew)); exact Kd.R_mono (Kd.R_far (p := ⟨gb304, 2, none⟩) (Kd.R_far (p := ⟨gb304, 1, none⟩) (Kd.R_far (p := ⟨gb304, 0, none⟩) (Kd.R_types HO_11.out BK304.out (by decide)) (fun _ hk => hk.2) (.int .i64 t300)) (fun _ hk => hk.2) (.int .i64 t301)) (fun _ hk => hk.2) (.int .i64 t302)) (fun _ hk => trivial)⟩
           have n1_ : Aside0 ((((w49.setCell ⟨gb304, 0, none⟩ (.int .i64 t300)).setCell ⟨gb304, 1, none⟩ (.int .i64 t301)).setCell ⟨gb304, 2, none⟩ (.int .i64 t302)).heap[gb285]? = some (.cells #[.int .i64 a1_0, .int .i64 a1_1, .int .i64 a1_2, .slice (some ad299) l1_3.length c1_3] 28 (0, 0))) := fl_ BK285 NB285_304
           have n2_ : Aside0 ((((w49.setCell ⟨gb304, 0, none⟩ (.int .i64 t300)).setCell ⟨gb304, 1, none⟩ (.int .i64 t301)).setCell ⟨gb304, 2, none⟩ (.int .i64 t302)).heap[gb286]? = some (.cells #[.int .i64 0, .int .i64 0, .int .i64 0, .slice none 0 0] 28 (0, 0))) := fl_ BK286 NB286_304
           have n3_ : Aside0 ((((w49.setCell ⟨gb304, 0, none⟩ (.int .i64 t300)).setCell ⟨gb304, 1, none⟩ (.int .i64 t301)).setCell ⟨gb304, 2, none⟩ (.int .i64 t302)).heap[gb293]? = some (.cells #[.int .i64 a2, .int .i64 a3, .int .i64 0, .int .i64 1] 83 (0, 0))) := fl_ BK293 NB293_304
           have n4_ : Aside0 ((((w49.setCell ⟨gb304, 0, none⟩ (.int .i64 t300)).setCell ⟨gb304, 1, none⟩ (.int .i64 t301)).setCell ⟨gb304, 2, none⟩ (.int .i64 t302)).heap[gb298]? = some (.cells #[.int .i64 t294, .int .i64 t295, .int .i64 t296] 25 (0, 0))) := fl_ BK298 NB298_304
           have n5_ : Aside0 ((((w49.setCell ⟨gb304, 0, none⟩ (.int .i64 t300)).setCell ⟨gb304, 1, none⟩ (.int .i64 t301)).setCell ⟨gb304, 2, none⟩ (.int .i64 t302)).heap[gb304]? = some (.cells #[.int .i64 t300, .int .i64 t301, .int .i64 t302] 25 (0, 0))) := bp_ BK304
           have n6_ : Aside0 (Below w.heap.size w (((w49.setCell ⟨gb304, 0, none⟩ (.int .i64 t300)).setCell ⟨gb304, 1, none⟩ (.int .i64 t301)).setCell ⟨gb304, 2, none⟩ (.int .i64 t302))) := bw_ HB
           (try clear HO_11)
           (try clear BK285)
           (try clear BK286)
           (try clear BK293)
           (try clear BK298)
           (try clear BK304)
           (try clear HB)
           generalize (((w49.setCell ⟨gb304, 0, none⟩ (.int .i64 t300)).setCell ⟨gb304, 1, none⟩ (.int .i64 t301)).setCell ⟨gb304, 2, none⟩ (.int .i64 t302)) = w53 at n0_ n1_ n2_ n3_ n4_ n5_ n6_ ⊢
           have HO_11 := n0_
           have BK285 := n1_
           have BK286 := n2_
           have BK293 := n3_
           have BK298 := n4_
           have BK304 := n5_
           have HB := n6_
           clear n0_ n1_ n2_ n3_ n4_ n5_ n6_
           replace HO_11 := Aside0.mk (Kd.R_drew HO_11.out)
           replace BK285 := Aside0.mk (blk_drew BK285.out)
           replace BK286 := Aside0.mk (blk_drew BK286.out)
           replace BK293 := Aside0.mk (blk_drew BK293.out)
           replace BK298 := Aside0.mk (blk_drew BK298.out)
           replace BK304 := Aside0.mk (blk_drew BK304.out)
           replace HB := Aside0.mk (below_drew1 HB.out)
           have p305 : 0 ≤ (x14_1 : Int) := od_
           have q305 : x14_1 < (l1_3.length : Int) := od_
           obtain ⟨ad305, e305, hx305_0, hx305_1, hx305_2, hx305_3⟩ := at_T52 HR1_3.out x14_1 p305 q305
           have hw305_3 := hx305_3
           have hw305_2 := hx305_2
           have hw305_1 := hx305_1
           have hw305_0 := hx305_0
           obtain rfl : ad299 = ad305 := (by injection e305)
           replace hx305_0 := clTr HB.out hx305_0
           replace hx305_1 := clTr HB.out hx305_1
           replace hx305_2 := clTr HB.out hx305_2
           replace hx305_3 := clTr HB.out hx305_3
           replace p305 := eq_true p305
           replace q305 := eq_true q305
           refine start_ (n := 12) (S := fun w' => w'.cell? ⟨gb304, 0, none⟩ = some (.int .i64 t300) ∧ w'.cell? ⟨gb304, 1, none⟩ = some (.int .i64 t301) ∧ w'.cell? ⟨gb304, 2, none⟩ = some (.int .i64 t302) ∧ w'.cell? ⟨gb285, 0, none⟩ = some (.int .i64 a1_0) ∧ w'.cell? ⟨gb285, 1, none⟩ = some (.int .i64 a1_1) ∧ w'.cell? ⟨gb285, 2, none⟩ = some (.int .i64 a1_2) ∧ w'.cell? ⟨gb285, 3, none⟩ = some (.slice (some ad299) l1_3.length c1_3) ∧ w'.cell? (ad299.add ((x14_1).toNat * 4)) = some (.int .i64 ((rd_T52 l1_3 x14_1).f0.f0)) ∧ w'.cell? ⟨(ad299.add ((x14_1).toNat * 4)).block, (ad299.add ((x14_1).toNat * 4)).off + 1, none⟩ = some (.int .i64 ((rd_T52 l1_3 x14_1).f0.f1)) ∧ w'.cell? ⟨(ad299.add ((x14_1).toNat * 4)).block, (ad299.add ((x14_1).toNat * 4)).off + 2, none⟩ = some (.int .i64 ((rd_T52 l1_3 x14_1).f0.f2)) ∧ w'.cell? ⟨(ad299.add ((x14_1).toNat * 4)).block, (ad299.add ((x14_1).toNat * 4)).off + 3, none⟩ = some (.int .i64 ((rd_T52 l1_3 x14_1).f1))) (ds := []) (bv_ 12 0) (by kernel_rfl) rfl rfl ⟨cz_ BK304 0, cz_ BK304 1, cz_ BK304 2, cz_ BK285 0, cz_ BK285 1, cz_ BK285 2, cz_ BK285 3, (clTr HB.out hw305_0 :), (clTr HB.out hw305_1 :), (clTr HB.out hw305_2 :), (clTr HB.out hw305_3 :)⟩ (fun hHeld => ?_); refine with_tabW spec_AffineImage.tab12 spec_AffineImage.bits12 (fun HT_ HW_ => ?_)
           generalize w53.drew = w54 at HO_11 BK285 BK286 BK293 BK298 BK304 HB hx305_0 hx305_1 hx305_2 hx305_3 hHeld ⊢
           refine pu_ HT_ 0 (some 76) (bv_ 12 1) ?_
           refine pu_ HT_ 2 (some 78) (bv_ 12 5) ?_
           refine pu_ HT_ 4 (some 80) (bv_ 12 21) ?_
           refine ta_ HT_ HW_ 1 (some 77) (bv_ 12 23) hHeld ?_ (hy := by rintro w' ⟨s0, s1, s2, s3, s4, s5, s6, s7, s8, s9, s10⟩; go_simp; with_reducible rfl)
           refine ta_ HT_ HW_ 3 (some 79) (bv_ 12 31) hHeld ?_ (hy := by rintro w' ⟨s0, s1, s2, s3, s4, s5, s6, s7, s8, s9, s10⟩; go_simp; with_reducible rfl)
           refine pu_ HT_ 5 (some 81) (bv_ 12 63) ?_
           refine pu_ HT_ 6 (some 82) (bv_ 12 127) ?_
           refine ta_ HT_ HW_ 7 (some 83) (bv_ 12 255) hHeld ?_ (hy := by rintro w' ⟨s0, s1, s2, s3, s4, s5, s6, s7, s8, s9, s10⟩; go_simp; with_reducible rfl)
           refine pu_ HT_ 8 (some 84) (bv_ 12 511) ?_
           refine one_ (i := 9) (N := some 85) (bv_ 12 1023) rfl rfl (one_of HT_.out (by kernel_rfl)) (by decide) (fun K hK => ?_)
           refine value_ (w1 := ?_) (v := ?_) (by rfl) rfl ?_ ?_
           rotate_left 2
           ·go_simp
            constructor
            ·rfl
            ·rfl
           refine hK.out _ _ ⟨(blk_cell (blk_alloc BK304.out _) 0).trans rfl, (blk_cell (blk_alloc BK304.out _) 1).trans rfl, (blk_cell (blk_alloc BK304.out _) 2).trans rfl, (blk_cell (blk_alloc BK285.out _) 0).trans rfl, (blk_cell (blk_alloc BK285.out _) 1).trans rfl, (blk_cell (blk_alloc BK285.out _) 2).trans rfl, (blk_cell (blk_alloc BK285.out _) 3).trans rfl, (World.cell?_alloc_lt _ _ _ (World.block_lt_of_cell? _ _ ((clTr HB.out hw305_0 :)))).trans ((clTr HB.out hw305_0 :)), (World.cell?_alloc_lt _ _ _ (World.block_lt_of_cell? _ _ ((clTr HB.out hw305_1 :)))).trans ((clTr HB.out hw305_1 :)), (World.cell?_alloc_lt _ _ _ (World.block_lt_of_cell? _ _ ((clTr HB.out hw305_2 :)))).trans ((clTr HB.out hw305_2 :)), (World.cell?_alloc_lt _ _ _ (World.block_lt_of_cell? _ _ ((clTr HB.out hw305_3 :)))).trans ((clTr HB.out hw305_3 :))⟩ (fun hHeld => ?_)
           clear hK K
           refine norm_ (a' := ?_) ?_ ?_
           rotate_left
           ·show Act.put _ (some 85) _ = _
            simp only [Act.put, lstS, lstZ, lstC, i64_w, i32_w]
            rfl
           refine one_ (i := 10) (N := some 86) (bv_ 12 2047) rfl rfl (one_of HT_.out (by kernel_rfl)) (by decide) (fun K hK => ?_)
           refine Kd.R_append_step k52 (w0 := w) w.heap.size (by rfl) (.tmp 76) (.tmp 85) 26 52 (.agg #[(.int .i64 0), (.int .i64 0), (.int .i64 0), (.int .i64 0)]) 32 rfl Try.underlying26 info52 rfl (by decide) (by omega) u11 x11_1 (⟨(⟨t300, t301, t302⟩ : S25), (rd_T52 l1_3 x14_1).f1⟩ : S52) [.int .i64 t300, .int .i64 t301, .int .i64 t302, .int .i64 ((rd_T52 l1_3 x14_1).f1)] (fun _ => True) (fun _ => False) rfl rfl ?aP (fun _ hk => hk.elim) ?aF ?aO ?aB ?aS ?aL ?_
           (case aP => exact k52_mkM _ _ _ (⟨(⟨t300, t301, t302⟩ : S25), (rd_T52 l1_3 x14_1).f1⟩ : S52))
           (case aB => exact (bw_ HB).out)
           (case aF => exact (fun _ _ => trivial))
           (case aO => exact (ra_ HO_11.out))
           (case aS => exact (below_size (bw_ HB).out))
           (case aL => have := LMc41.out; omega)
           intro v307 w55 ho hb hg hat
           rw [← Ny306.out] at ho
           have n0_ := Aside0.mk (blk_grown (g := gb285) (o := .cells #[.int .i64 a1_0, .int .i64 a1_1, .int .i64 a1_2, .slice (some ad299) l1_3.length c1_3] 28 (0, 0)) (bl_ BK285).out hg (Kd.R_ne HO_11.out BK285.out (by decide)))
           have n1_ := Aside0.mk (blk_grown (g := gb286) (o := .cells #[.int .i64 0, .int .i64 0, .int .i64 0, .slice none 0 0] 28 (0, 0)) (bl_ BK286).out hg (Kd.R_ne HO_11.out BK286.out (by decide)))
           have n2_ := Aside0.mk (blk_grown (g := gb293) (o := .cells #[.int .i64 a2, .int .i64 a3, .int .i64 0, .int .i64 1] 83 (0, 0)) (bl_ BK293).out hg (Kd.R_ne HO_11.out BK293.out (by decide)))
           have n3_ := Aside0.mk (blk_grown (g := gb298) (o := .cells #[.int .i64 t294, .int .i64 t295, .int .i64 t296] 25 (0, 0)) (bl_ BK298).out hg (Kd.R_ne HO_11.out BK298.out (by decide)))
           have n4_ := Aside0.mk (blk_grown (g := gb304) (o := .cells #[.int .i64 t300, .int .i64 t301, .int .i64 t302] 25 (0, 0)) (bl_ BK304).out hg (Kd.R_ne HO_11.out BK304.out (by decide)))
           have n5_ := Aside0.mk (hb)
           have n6_ := Aside0.mk (ho)
           clear BK285
           clear BK286
           clear BK293
           clear BK298
           clear BK304
           clear HB
           clear HO_11
           have BK285 := n0_
           have BK286 := n1_
           have BK293 := n2_
           have BK298 := n3_
           have BK304 := n4_
           have HB := n5_
           have HO308 := n6_
           clear n0_ n1_ n2_ n3_ n4_ n5_ n6_
           clear ho hb hg hat
           refine hK.out _ _ ⟨cz_ BK304 0, cz_ BK304 1, cz_ BK304 2, cz_ BK285 0, cz_ BK285 1, cz_ BK285 2, cz_ BK285 3, (clTr HB.out hw305_0 :), (clTr HB.out hw305_1 :), (clTr HB.out hw305_2 :), (clTr HB.out hw305_3 :)⟩ (fun hHeld => ?_)
           clear hK K
           refine norm_ (a' := ?_) ?_ ?_
           rotate_left
           ·show Act.put _ (some 86) _ = _
            simp only [Act.put, lstS, lstZ, lstC, i64_w, i32_w]
            rfl
           refine pu_ HT_ 11 (some 11) (bv_ 12 4095) ?_
           refine done_ (done_of HT_.out (by kernel_rfl)) ?_
           try go_wp2
           go_roundg k1
           case measure => have := HK1.out; omega
           case rel => exact ⟨(y306), (t303), (wrap64 (x14_1 + 1)), en_, en_, H', ⟨by have := HK1.out; omega⟩, ⟨by (with_reducible repeat (first | apply Kd.R_alloc | apply Kd.R_drewN | apply Kd.R_drew)); exact HO308.out⟩, bl_ BK285, bl_ BK286, bl_ BK293, bl_ BK298, bw_ HB⟩
          ·rw [if_neg c41] at H
           exact absurd H (by simp)
         ·rw [if_neg c39] at H
          exact absurd H (by simp)
        ·replace c38 := Bool.eq_false_iff.mpr c38
         subst c38
         have H1 : (some (0, 0, 0, ([] : List (S52)), 3)) = some (r1, r2, r3, r4, r5) := by rw [if_neg (show ¬ (false = true) by decide)] at H; exact H
         clear H
         have H := H1
         clear H1
         simp only [Option.some.injEq, Prod.mk.injEq] at H
         obtain ⟨rfl, rfl, rfl, rfl, rfl⟩ := H
         have hnb56 := NB285_286.out
         have hnc56 := NB286_285.out
         have hnb57 := NB285_293.out
         have hnc57 := NB293_285.out
         have hnb58 := NB285_298.out
         have hnc58 := NB298_285.out
         obtain ⟨hcz59_0, hcz59_1, hcz59_2, hcz59_3, hfz59_0, hfz59_1, hfz59_2, hfz59_3⟩ := ch4_ BK285
         have hnb60 := NB286_293.out
         have hnc60 := NB293_286.out
         have hnb61 := NB286_298.out
         have hnc61 := NB298_286.out
         obtain ⟨hcz62_0, hcz62_1, hcz62_2, hcz62_3, hfz62_0, hfz62_1, hfz62_2, hfz62_3⟩ := ch4_ BK286
         go_wp2
         refine bodyPost_ret (results_ct rfl _ _ gb286 28 #[.int .i64 0, .int .i64 0, .int .i64 0, .slice none 0 0] (0, 0) _ rfl (bp_ BK286).out Try.underlying28 rfl (by kernel_rfl)) rfl ?_
         exact ⟨_, es_, by first | exact Kd.R_nil _ _ _ _ _ | exact Kd.N_nil _ _ _ _ _ | exact Kd.V_nil _ _ _ _ _ | exact Kd.Q_nil _ _ _ _ _ | exact Kd.S_nil _ _ _ _ _, (bw_ HB).out⟩
       ·rw [if_neg c37] at H
        have c37b0 : decide (x14_1 < (l1_3.length : Int)) = false := decide_eq_false c37
        clear c37
        by_cases c63 : x13_1 = true
        ·subst c63
         have H1 : ((spec_l08Told.f k1 a0 t294 t295 t296 x11_1).bind fun bt309 => (some (bt309.1, bt309.2.1, bt309.2.2.1, bt309.2.2.2.1, bt309.2.2.2.2))) = some (r1, r2, r3, r4, r5) := by rw [if_pos rfl] at H; exact H
         clear H
         have H := H1
         clear H1
         replace H := ob_ H
         obtain ⟨⟨t309, t310, t311, t312, t315⟩, A640, H⟩ := H
         have A64 := Aside0.mk A640
         clear A640
         simp only [Option.some.injEq, Prod.mk.injEq] at H
         obtain ⟨rfl, rfl, rfl, rfl, rfl⟩ := H
         have hnb65 := NB285_286.out
         have hnc65 := NB286_285.out
         have hnb66 := NB285_293.out
         have hnc66 := NB293_285.out
         have hnb67 := NB285_298.out
         have hnc67 := NB298_285.out
         obtain ⟨hcz68_0, hcz68_1, hcz68_2, hcz68_3, hfz68_0, hfz68_1, hfz68_2, hfz68_3⟩ := ch4_ BK285
         have hnb69 := NB298_286.out
         have hnc69 := NB286_298.out
         have hnb70 := NB298_293.out
         have hnc70 := NB293_298.out
         obtain ⟨hcz71_0, hcz71_1, hcz71_2, hfz71_0, hfz71_1, hfz71_2⟩ := ch3_ BK298
         obtain ⟨Ao72, co72, eo72⟩ := Kd.R_slice HO_11.out
         subst eo72
         go_wp2_with (first | (refine ge_ 94 Try.func27 #[.int .i64 a0, .agg #[.int .i64 t294, .int .i64 t295, .int .i64 t296], .slice Ao72 x11_1.length co72] ?_; (with_reducible refine (spec_l08Told.calls k1 a0 t294 t295 t296 _ _ x11_1 t309 t310 t311 t312 t315 _ ?side1 ?side2 A64.out).mono ?_); (case side1 => exact ca_ (Kd.R_reads' HO_11.out).2.2); (case side2 => exact (Kd.R_reads' HO_11.out).2.1); rintro e w73 ⟨v313, rfl, ho0, hb⟩; refine ⟨_, rfl, ?_⟩; have HO314 := Aside0.mk (Kd.R_lower (Kd.R_new' ho0 (Kd.R_lt (ra_ HO_11.out))) (below_size (bw_ HB).out)); replace HO_11 := Aside0.mk (Kd.R_elder' (ra_ HO_11.out) (Kd.R_base ho0) hb); replace BK285 := bb_ BK285 hb; replace BK286 := bb_ BK286 hb; replace BK293 := bb_ BK293 hb; replace BK298 := bb_ BK298 hb; replace HB := bt_ HB hb; (try clear hb); (try clear hb2); (try clear hk); (try clear hi); (try clear ho0)) | (refine bx_ 17 #[.int .i64 0, .int .i64 0, .int .i64 0, .slice none 0 0] 28 ?_; intro gb316 hg w74 hbox hb; have BK316 := Aside0.mk (hbox); have GW316 := bs_ HB hg; have GE316 := bs_ HB hg; have NB285_316 := bm_ BK285 hg; have NB316_285 := bn_ BK285 hg; have NB286_316 := bm_ BK286 hg; have NB316_286 := bn_ BK286 hg; have NB293_316 := bm_ BK293 hg; have NB316_293 := bn_ BK293 hg; have NB298_316 := bm_ BK298 hg; have NB316_298 := bn_ BK298 hg; replace HO_11 := Aside0.mk (Kd.R_below (ra_ HO_11.out) hb); replace HO314 := Aside0.mk (Kd.R_below (ra_ HO314.out) hb); replace BK285 := bb_ BK285 hb; replace BK286 := bb_ BK286 hb; replace BK293 := bb_ BK293 hb; replace BK298 := bb_ BK298 hb; replace HB := bt_ HB hb; clear hb hbox hg; have hnb75 := NB316_285.out; have hnc75 := NB285_316.out; have hnb76 := NB316_286.out; have hnc76 := NB286_316.out; have hnb77 := NB316_293.out; have hnc77 := NB293_316.out; have hnb78 := NB316_298.out; have hnc78 := NB298_316.out; obtain ⟨hcz79_0, hcz79_1, hcz79_2, hcz79_3, hfz79_0, hfz79_1, hfz79_2, hfz79_3⟩ := ch4_ BK316; obtain ⟨Ao80, co80, eo80⟩ := Kd.R_slice HO314.out; subst eo80; have hnb81 := NB286_293.out; have hnc81 := NB293_286.out; obtain ⟨hcz82_0, hcz82_1, hcz82_2, hcz82_3, hfz82_0, hfz82_1, hfz82_2, hfz82_3⟩ := ch4_ BK286))
         refine bodyPost_ret (results_ct rfl _ _ gb286 28 #[.int .i64 t309, .int .i64 t310, .int .i64 t311, .slice Ao80 t312.length co80] (0, 0) _ rfl (bp_ BK286).out Try.underlying28 rfl (by kernel_rfl)) rfl ?_
         exact ⟨_, es_, by (with_reducible repeat (first | apply Kd.R_alloc | apply Kd.R_drewN | apply Kd.R_drew)); exact Kd.R_mono (Kd.R_far (p := ⟨gb286, 3, none⟩) (Kd.R_far (p := ⟨gb286, 2, none⟩) (Kd.R_far (p := ⟨gb286, 1, none⟩) (Kd.R_far (p := ⟨gb286, 0, none⟩) (Kd.R_far (p := ⟨gb316, 3, none⟩) (Kd.R_far (p := ⟨gb316, 2, none⟩) (Kd.R_far (p := ⟨gb316, 1, none⟩) (Kd.R_far (p := ⟨gb316, 0, none⟩) (Kd.R_types (Kd.R_types HO314.out BK316.out (by decide)) BK286.out (by decide)) (fun _ hk => hk.1.2) (.int .i64 t309)) (fun _ hk => hk.1.2) (.int .i64 t310)) (fun _ hk => hk.1.2) (.int .i64 t311)) (fun _ hk => hk.1.2) (.slice Ao80 t312.length co80)) (fun _ hk => hk.2) (.int .i64 t309)) (fun _ hk => hk.2) (.int .i64 t310)) (fun _ hk => hk.2) (.int .i64 t311)) (fun _ hk => hk.2) (.slice Ao80 t312.length co80)) (fun _ hk => trivial), (bw_ HB).out⟩
        ·replace c63 := Bool.eq_false_iff.mpr c63
         subst c63
         have H1 : (some (0, 0, 0, ([] : List (S52)), 3)) = some (r1, r2, r3, r4, r5) := by rw [if_neg (show ¬ (false = true) by decide)] at H; exact H
         clear H
         have H := H1
         clear H1
         simp only [Option.some.injEq, Prod.mk.injEq] at H
         obtain ⟨rfl, rfl, rfl, rfl, rfl⟩ := H
         have hnb83 := NB285_286.out
         have hnc83 := NB286_285.out
         have hnb84 := NB285_293.out
         have hnc84 := NB293_285.out
         have hnb85 := NB285_298.out
         have hnc85 := NB298_285.out
         obtain ⟨hcz86_0, hcz86_1, hcz86_2, hcz86_3, hfz86_0, hfz86_1, hfz86_2, hfz86_3⟩ := ch4_ BK285
         have hnb87 := NB286_293.out
         have hnc87 := NB293_286.out
         have hnb88 := NB286_298.out
         have hnc88 := NB298_286.out
         obtain ⟨hcz89_0, hcz89_1, hcz89_2, hcz89_3, hfz89_0, hfz89_1, hfz89_2, hfz89_3⟩ := ch4_ BK286
         go_wp2
         refine bodyPost_ret (results_ct rfl _ _ gb286 28 #[.int .i64 0, .int .i64 0, .int .i64 0, .slice none 0 0] (0, 0) _ rfl (bp_ BK286).out Try.underlying28 rfl (by kernel_rfl)) rfl ?_
         exact ⟨_, es_, by first | exact Kd.R_nil _ _ _ _ _ | exact Kd.N_nil _ _ _ _ _ | exact Kd.V_nil _ _ _ _ _ | exact Kd.Q_nil _ _ _ _ _ | exact Kd.S_nil _ _ _ _ _, (bw_ HB).out⟩
    ·replace c17 := Bool.eq_false_iff.mpr c17
     subst c17
     have H1 : (some (0, 0, 0, ([] : List (S52)), 2)) = some (r1, r2, r3, r4, r5) := by rw [if_neg (show ¬ (false = true) by decide)] at H; exact H
     clear H
     have H := H1
     clear H1
     simp only [Option.some.injEq, Prod.mk.injEq] at H
     obtain ⟨rfl, rfl, rfl, rfl, rfl⟩ := H
     go_enter Try.func20, Try.ntmps20
     go_wp2_with (first | (refine bx_ 5 #[.int .i64 a1_0, .int .i64 a1_1, .int .i64 a1_2, .slice A1_3 l1_3.length c1_3] 28 ?_; intro gb285 hg w90 hbox hb; have BK285 := Aside0.mk (hbox); have GW285 := bs_ HB hg; have GE285 := bs_ HB hg; replace HB := bt_ HB hb; clear hb hbox hg) | (refine bx_ 8 #[.int .i64 0, .int .i64 0, .int .i64 0, .slice none 0 0] 28 ?_; intro gb286 hg w91 hbox hb; have BK286 := Aside0.mk (hbox); have GW286 := bs_ HB hg; have GE286 := bs_ HB hg; have NB285_286 := bm_ BK285 hg; have NB286_285 := bn_ BK285 hg; replace BK285 := bb_ BK285 hb; replace HB := bt_ HB hb; clear hb hbox hg; have hnb92 := NB285_286.out; have hnc92 := NB286_285.out; obtain ⟨hcz93_0, hcz93_1, hcz93_2, hcz93_3, hfz93_0, hfz93_1, hfz93_2, hfz93_3⟩ := ch4_ BK285) | (refine ge_ 22 Try.func51 #[.int .i64 a0, .agg #[.int .i64 a1_0, .int .i64 a1_1, .int .i64 a1_2, .slice A1_3 l1_3.length c1_3]] ?_; (with_reducible refine (spec_l08Is.calls k a0 a1_0 a1_1 a1_2 _ _ l1_3 true _ ?side1 ?side2 A5.out).mono ?_); (case side1 => exact ca_ (Kd.C_below HR1_3.out HB.out)); (case side2 => exact HC1_3.out); rintro e w94 ⟨rfl, hb⟩; refine ⟨_, rfl, ?_⟩; replace BK285 := bb_ BK285 hb; replace BK286 := bb_ BK286 hb; replace HB := bt_ HB hb; (try clear hb); (try clear hb2); (try clear hk); (try clear hi)) | (go_at_call 25; (with_reducible refine (spec_l01In.calls a2 (-1000) 1000 true _ A14.out).mono ?_); rintro e w' ⟨rfl, ⟨nd, rfl⟩⟩; (try (rw [drewN_self w94]; generalize hq_ : World.drewN w94 _ = w94; have n0_ : Aside0 (w94.heap[gb285]? = some (.cells #[.int .i64 a1_0, .int .i64 a1_1, .int .i64 a1_2, .slice A1_3 l1_3.length c1_3] 28 (0, 0))) := ⟨by rw [← hq_]; exact (bl_ BK285).out⟩; have n1_ : Aside0 (w94.heap[gb286]? = some (.cells #[.int .i64 0, .int .i64 0, .int .i64 0, .slice none 0 0] 28 (0, 0))) := ⟨by rw [← hq_]; exact (bl_ BK286).out⟩; have n2_ : Aside0 (Below w.heap.size w w94) := ⟨by rw [← hq_]; exact (bw_ HB).out⟩; clear BK285 BK286 HB hq_; have BK285 := n0_; have BK286 := n1_; have HB := n2_; clear n0_ n1_ n2_))) | (go_at_call 25; (with_reducible refine (spec_l01In.calls a3 (-1000) 1000 false _ A16.out).mono ?_); rintro e w' ⟨rfl, ⟨nd, rfl⟩⟩; (try (rw [drewN_self w94]; generalize hq_ : World.drewN w94 _ = w94; have n0_ : Aside0 (w94.heap[gb285]? = some (.cells #[.int .i64 a1_0, .int .i64 a1_1, .int .i64 a1_2, .slice A1_3 l1_3.length c1_3] 28 (0, 0))) := ⟨by rw [← hq_]; exact (bl_ BK285).out⟩; have n1_ : Aside0 (w94.heap[gb286]? = some (.cells #[.int .i64 0, .int .i64 0, .int .i64 0, .slice none 0 0] 28 (0, 0))) := ⟨by rw [← hq_]; exact (bl_ BK286).out⟩; have n2_ : Aside0 (Below w.heap.size w w94) := ⟨by rw [← hq_]; exact (bw_ HB).out⟩; clear BK285 BK286 HB hq_; have BK285 := n0_; have BK286 := n1_; have HB := n2_; clear n0_ n1_ n2_)); obtain ⟨hcz95_0, hcz95_1, hcz95_2, hcz95_3, hfz95_0, hfz95_1, hfz95_2, hfz95_3⟩ := ch4_ BK286))
     refine bodyPost_ret (results_ct rfl _ _ gb286 28 #[.int .i64 0, .int .i64 0, .int .i64 0, .slice none 0 0] (0, 0) _ rfl (bp_ BK286).out Try.underlying28 rfl (by kernel_rfl)) rfl ?_
     exact ⟨_, es_, by first | exact Kd.R_nil _ _ _ _ _ | exact Kd.N_nil _ _ _ _ _ | exact Kd.V_nil _ _ _ _ _ | exact Kd.Q_nil _ _ _ _ _ | exact Kd.S_nil _ _ _ _ _, (bw_ HB).out⟩
   ·replace c15 := Bool.eq_false_iff.mpr c15
    subst c15
    have H1 : (some (0, 0, 0, ([] : List (S52)), 2)) = some (r1, r2, r3, r4, r5) := by rw [if_neg (show ¬ (false = true) by decide)] at H; exact H
    clear H
    have H := H1
    clear H1
    simp only [Option.some.injEq, Prod.mk.injEq] at H
    obtain ⟨rfl, rfl, rfl, rfl, rfl⟩ := H
    go_enter Try.func20, Try.ntmps20
    go_wp2_with (first | (refine bx_ 5 #[.int .i64 a1_0, .int .i64 a1_1, .int .i64 a1_2, .slice A1_3 l1_3.length c1_3] 28 ?_; intro gb285 hg w96 hbox hb; have BK285 := Aside0.mk (hbox); have GW285 := bs_ HB hg; have GE285 := bs_ HB hg; replace HB := bt_ HB hb; clear hb hbox hg) | (refine bx_ 8 #[.int .i64 0, .int .i64 0, .int .i64 0, .slice none 0 0] 28 ?_; intro gb286 hg w97 hbox hb; have BK286 := Aside0.mk (hbox); have GW286 := bs_ HB hg; have GE286 := bs_ HB hg; have NB285_286 := bm_ BK285 hg; have NB286_285 := bn_ BK285 hg; replace BK285 := bb_ BK285 hb; replace HB := bt_ HB hb; clear hb hbox hg; have hnb98 := NB285_286.out; have hnc98 := NB286_285.out; obtain ⟨hcz99_0, hcz99_1, hcz99_2, hcz99_3, hfz99_0, hfz99_1, hfz99_2, hfz99_3⟩ := ch4_ BK285) | (refine ge_ 22 Try.func51 #[.int .i64 a0, .agg #[.int .i64 a1_0, .int .i64 a1_1, .int .i64 a1_2, .slice A1_3 l1_3.length c1_3]] ?_; (with_reducible refine (spec_l08Is.calls k a0 a1_0 a1_1 a1_2 _ _ l1_3 true _ ?side1 ?side2 A5.out).mono ?_); (case side1 => exact ca_ (Kd.C_below HR1_3.out HB.out)); (case side2 => exact HC1_3.out); rintro e w100 ⟨rfl, hb⟩; refine ⟨_, rfl, ?_⟩; replace BK285 := bb_ BK285 hb; replace BK286 := bb_ BK286 hb; replace HB := bt_ HB hb; (try clear hb); (try clear hb2); (try clear hk); (try clear hi)) | (go_at_call 25; (with_reducible refine (spec_l01In.calls a2 (-1000) 1000 false _ A14.out).mono ?_); rintro e w' ⟨rfl, ⟨nd, rfl⟩⟩; (try (rw [drewN_self w100]; generalize hq_ : World.drewN w100 _ = w100; have n0_ : Aside0 (w100.heap[gb285]? = some (.cells #[.int .i64 a1_0, .int .i64 a1_1, .int .i64 a1_2, .slice A1_3 l1_3.length c1_3] 28 (0, 0))) := ⟨by rw [← hq_]; exact (bl_ BK285).out⟩; have n1_ : Aside0 (w100.heap[gb286]? = some (.cells #[.int .i64 0, .int .i64 0, .int .i64 0, .slice none 0 0] 28 (0, 0))) := ⟨by rw [← hq_]; exact (bl_ BK286).out⟩; have n2_ : Aside0 (Below w.heap.size w w100) := ⟨by rw [← hq_]; exact (bw_ HB).out⟩; clear BK285 BK286 HB hq_; have BK285 := n0_; have BK286 := n1_; have HB := n2_; clear n0_ n1_ n2_)); obtain ⟨hcz101_0, hcz101_1, hcz101_2, hcz101_3, hfz101_0, hfz101_1, hfz101_2, hfz101_3⟩ := ch4_ BK286))
    refine bodyPost_ret (results_ct rfl _ _ gb286 28 #[.int .i64 0, .int .i64 0, .int .i64 0, .slice none 0 0] (0, 0) _ rfl (bp_ BK286).out Try.underlying28 rfl (by kernel_rfl)) rfl ?_
    exact ⟨_, es_, by first | exact Kd.R_nil _ _ _ _ _ | exact Kd.N_nil _ _ _ _ _ | exact Kd.V_nil _ _ _ _ _ | exact Kd.Q_nil _ _ _ _ _ | exact Kd.S_nil _ _ _ _ _, (bw_ HB).out⟩
 ·replace c6 := Bool.eq_false_iff.mpr c6
  subst c6
  have H1 : (some (0, 0, 0, ([] : List (S52)), 1)) = some (r1, r2, r3, r4, r5) := by rw [if_neg (show ¬ (false = true) by decide)] at H; exact H
  clear H
  have H := H1
  clear H1
  simp only [Option.some.injEq, Prod.mk.injEq] at H
  obtain ⟨rfl, rfl, rfl, rfl, rfl⟩ := H
  go_enter Try.func20, Try.ntmps20
  go_wp2_with (first | (refine bx_ 5 #[.int .i64 a1_0, .int .i64 a1_1, .int .i64 a1_2, .slice A1_3 l1_3.length c1_3] 28 ?_; intro gb285 hg w102 hbox hb; have BK285 := Aside0.mk (hbox); have GW285 := bs_ HB hg; have GE285 := bs_ HB hg; replace HB := bt_ HB hb; clear hb hbox hg) | (refine bx_ 8 #[.int .i64 0, .int .i64 0, .int .i64 0, .slice none 0 0] 28 ?_; intro gb286 hg w103 hbox hb; have BK286 := Aside0.mk (hbox); have GW286 := bs_ HB hg; have GE286 := bs_ HB hg; have NB285_286 := bm_ BK285 hg; have NB286_285 := bn_ BK285 hg; replace BK285 := bb_ BK285 hb; replace HB := bt_ HB hb; clear hb hbox hg; have hnb104 := NB285_286.out; have hnc104 := NB286_285.out; obtain ⟨hcz105_0, hcz105_1, hcz105_2, hcz105_3, hfz105_0, hfz105_1, hfz105_2, hfz105_3⟩ := ch4_ BK285) | (refine ge_ 22 Try.func51 #[.int .i64 a0, .agg #[.int .i64 a1_0, .int .i64 a1_1, .int .i64 a1_2, .slice A1_3 l1_3.length c1_3]] ?_; (with_reducible refine (spec_l08Is.calls k a0 a1_0 a1_1 a1_2 _ _ l1_3 false _ ?side1 ?side2 A5.out).mono ?_); (case side1 => exact ca_ (Kd.C_below HR1_3.out HB.out)); (case side2 => exact HC1_3.out); rintro e w106 ⟨rfl, hb⟩; refine ⟨_, rfl, ?_⟩; replace BK285 := bb_ BK285 hb; replace BK286 := bb_ BK286 hb; replace HB := bt_ HB hb; (try clear hb); (try clear hb2); (try clear hk); (try clear hi); obtain ⟨hcz107_0, hcz107_1, hcz107_2, hcz107_3, hfz107_0, hfz107_1, hfz107_2, hfz107_3⟩ := ch4_ BK286))
  refine bodyPost_ret (results_ct rfl _ _ gb286 28 #[.int .i64 0, .int .i64 0, .int .i64 0, .slice none 0 0] (0, 0) _ rfl (bp_ BK286).out Try.underlying28 rfl (by kernel_rfl)) rfl ?_
  exact ⟨_, es_, by first | exact Kd.R_nil _ _ _ _ _ | exact Kd.N_nil _ _ _ _ _ | exact Kd.V_nil _ _ _ _ _ | exact Kd.Q_nil _ _ _ _ _ | exact Kd.S_nil _ _ _ _ _, (bw_ HB).out⟩
end Go.Proofs.Ytbldceikdajdlaa.QD
