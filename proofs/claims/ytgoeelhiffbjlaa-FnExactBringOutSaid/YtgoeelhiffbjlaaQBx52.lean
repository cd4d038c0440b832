import Derived.Test.YtgoeelhiffbjlaaQBx45
namespace Go.Proofs.Ytgoeelhiffbjlaa.QB
set_option maxHeartbeats 8000000
set_option maxRecDepth 100000
open Go.RowKit YtgoeelhiffbjlaaW.PrintWords YtgoeelhiffbjlaaW.PrintLast YtgoeelhiffbjlaaW.PrintMore
attribute [local go_sem] isSome_setCell max2_int min2_int max_two min_two max_three min_three max_four min_four
set_option linter.unusedVariables false
set_option linter.unusedSimpArgs false
def impl_inverted.f (k : Nat) (a0_0 a0_1 a0_2 a0_3 : Int) : Option (Int × Int × Int × Int) := (impl_reduce.f k a0_3 (wrap64 (-a0_1)) (wrap64 (-a0_2)) a0_0).bind fun bt322 => (some (bt322.1, bt322.2.1, bt322.2.2.1, bt322.2.2.2))
theorem impl_inverted.calls (k : Nat) (a0_0 a0_1 a0_2 a0_3 r1 r2 r3 r4 : Int) (w : World) (h : impl_inverted.f k a0_0 a0_1 a0_2 a0_3 = some (r1, r2, r3, r4)) :
  Calls Try.prog 97 #[.agg #[.int .i64 a0_0, .int .i64 a0_1, .int .i64 a0_2, .int .i64 a0_3]] w fun e w' => e = .returned (.agg #[.int .i64 r1, .int .i64 r2, .int .i64 r3, .int .i64 r4]) ∧ Below w.heap.size w w' := by
 have hu46 := Try.underlying46
 have hu44 := Try.underlying44
 have HB := Aside0.mk (Below.refl w.heap.size w)
 unfold impl_inverted.f at h
 have H := h
 clear h
 replace H := oc_ H
 obtain ⟨⟨t322, t323, t324, t325⟩, A2, H⟩ := H
 simp only [Option.some.injEq, Prod.mk.injEq] at H
 obtain ⟨rfl, rfl, rfl, rfl⟩ := H
 go_enter Try.func97, Try.ntmps97
 go_wp2_with (first | ((refine gd_ 1 ?_); refine by_ 1 #[.int .i64 a0_0, .int .i64 a0_1, .int .i64 a0_2, .int .i64 a0_3] 46 HB ?_; intro gb320 hg w3 BK320 hb GW320 HB_; replace HB := HB_; clear hb hg) | ((refine gd_ 2 ?_); refine by_ 2 #[.int .i64 0, .int .i64 0, .int .i64 0, .int .i64 0] 46 HB ?_; intro gb321 hg w4 BK321 hb GW321 HB_; have NB320_321 := bm_ BK320 hg; have NB321_320 := bn_ BK320 hg; replace BK320 := bb_ BK320 hb; replace HB := HB_; clear hb hg; have hnb5 := NB320_321.out; have hnc5 := NB321_320.out; obtain ⟨hcz6_0, hcz6_1, hcz6_2, hcz6_3, hfz6_0, hfz6_1, hfz6_2, hfz6_3⟩ := ch4_ BK320) | ((refine gc_ 105 ?_); refine ge_ 20 Try.func105 #[.agg #[.int .i64 a0_3, .int .i64 (wrap64 (-a0_1)), .int .i64 (wrap64 (-a0_2)), .int .i64 a0_0]] ?_; (with_reducible refine (impl_reduce.calls k a0_3 (wrap64 (-a0_1)) (wrap64 (-a0_2)) a0_0 t322 t323 t324 t325 _ A2.out).mono ?_); rintro e w7 ⟨rfl, hb⟩; refine ⟨_, rfl, ?_⟩; replace BK320 := bb_ BK320 hb; replace BK321 := bb_ BK321 hb; replace HB := bt_ HB hb; (try clear hb); obtain ⟨hcz8_0, hcz8_1, hcz8_2, hcz8_3, hfz8_0, hfz8_1, hfz8_2, hfz8_3⟩ := ch4_ BK321))
 refine bodyPost_ret (results_cell_row rfl _ _ gb321 46 #[.int .i64 t322, .int .i64 t323, .int .i64 t324, .int .i64 t325] (0, 0) _ rfl (bp_ BK321).out Try.underlying46 rfl (by kernel_rfl)) rfl ?_
 exact ⟨es_, (bw_ HB).out⟩
def impl_IsEnd.f (k : Nat) (a0_0 a0_1 : Int) : Option (Bool) := if a0_1 = 0 then (some (a0_0 == 1)) else ((impl_within.f k 1000000 (([a0_0, a0_1] : List Int))).bind fun t330 => (if t330 = true then (if a0_1 > 0 then ((impl_gcd.f k a0_0 a0_1).bind fun t331 => (some (t331 == 1))) else (some false)) else (some false)))
theorem impl_IsEnd.calls (k : Nat) (a0_0 a0_1 : Int) (r : Bool) (w : World) (h : impl_IsEnd.f k a0_0 a0_1 = some r) :
  Calls Try.prog 140 #[.agg #[.int .i64 a0_0, .int .i64 a0_1]] w fun e w' => e = .returned (.bool r) ∧ Below w.heap.size w w' := by
 have hu74 := Try.underlying74
 have HB := Aside0.mk (Below.refl w.heap.size w)
 unfold impl_IsEnd.f at h
 have H := h
 clear h
 replace H := ie_ H
 rcases H with ⟨c2b0, c2b1, H⟩ | ⟨c2, c2b0, c2b1, H⟩
 ·obtain rfl := si_ H
  go_enter Try.func140, Try.ntmps140
  go_wp2_with (first | ((refine gd_ 1 ?_); refine by_ 1 #[.int .i64 a0_0, .int .i64 a0_1] 74 HB ?_; intro gb326 hg w3 BK326 hb GW326 HB_; replace HB := HB_; clear hb hg; obtain ⟨hcz4_0, hcz4_1, hfz4_0, hfz4_1⟩ := ch2_ BK326))
  go_ret
  exact ⟨es_, (bw_ HB).out⟩
 obtain ⟨y327, hy327⟩ : ∃ y_ : List Int, y_ = (([a0_0, a0_1] : List Int)) := ⟨_, rfl⟩
 replace H : ((impl_within.f k 1000000 y327).bind fun t330 => (if t330 = true then (if a0_1 > 0 then ((impl_gcd.f k a0_0 a0_1).bind fun t331 => (some (t331 == 1))) else (some false)) else (some false))) = some r := by first | (rw [hy327]; with_reducible exact H) | (have H2_ := (Option.bind_some _ _).symm.trans H; rw [hy327]; with_reducible exact H2_) | (have H2_ := (Option.bind_some _ _).symm.trans H; with_reducible exact H2_) | with_reducible exact H | (rw [hy327]; exact H) | exact H
 have Ny327 := Aside0.mk hy327
 clear hy327
 replace H := oc_ H
 obtain ⟨t330, A5, H⟩ := H
 replace H := ib_ H
 rcases H with ⟨rfl, H⟩ | ⟨rfl, H⟩
 ·replace H := ig_ H
  rcases H with ⟨c7b0, H⟩ | ⟨c7b0, H⟩
  ·replace H := oc_ H
   obtain ⟨t331, A8, H⟩ := H
   obtain rfl := si_ H
   go_enter Try.func140, Try.ntmps140
   go_wp2_with (first | ((refine gd_ 1 ?_); refine by_ 1 #[.int .i64 a0_0, .int .i64 a0_1] 74 HB ?_; intro gb326 hg w9 BK326 hb GW326 HB_; replace HB := HB_; clear hb hg; obtain ⟨hcz10_0, hcz10_1, hfz10_0, hfz10_1⟩ := ch2_ BK326) | ((refine gd_ 13 ?_); refine Kd.R_lit (Kd.int .i64) _ 2 ?hg (N := 13) ?hd (xs := ([a0_0, a0_1] : List Int)) (inner := [.int .i64 a0_0, .int .i64 a0_1]) (ok := fun _ => True) (okp := fun _ => True) ?hr ?hp (fun _ hk => hk) trivial (Below.refl _ _) (Nat.le_refl _) (by simp) ?_; (case hd => rfl); (case hg => rfl); (case hr => first | (go_simp; done) | (go_simp; rfl)); (case hp => exact (Reps.one (show Kd.M (Kd.int .i64) _ _ _ a0_0 [.int .i64 a0_0] from rfl) (Reps.one (show Kd.M (Kd.int .i64) _ _ _ a0_1 [.int .i64 a0_1] from rfl) (Reps.none _ _)))); intro v328 w11 ho12 hb hg_ hnew_; clear hg_ hnew_; (first | rw [← Ny327.out] at ho12 | (simp only [Int.reduceToNat] at ho12; rw [← Ny327.out] at ho12)); have HO329 := Aside0.mk (Kd.R_lower ho12 (below_size (bw_ HB).out)); replace BK326 := bb_ BK326 hb; replace HB := bt_ HB hb; clear hb ho12; obtain ⟨Ao13, co13, eo13⟩ := Kd.R_slice HO329.out; subst eo13) | ((refine gc_ 102 ?_); refine ge_ 14 Try.func102 #[.int .i64 1000000, .slice Ao13 y327.length co13] ?_; (with_reducible refine (impl_within.calls k 1000000 _ _ y327 true _ ?side1 ?side2 A5.out).mono ?_); (case side1 => exact ca_ (Kd.R_reads' HO329.out).2.2); (case side2 => exact (Kd.R_reads' HO329.out).2.1); rintro e w' ⟨rfl, ⟨nd, rfl⟩⟩; refine ⟨_, rfl, ?_⟩; obtain ⟨hcz14_0, hcz14_1, hfz14_0, hfz14_1⟩ := ch2_ BK326) | (go_at_call 177; (with_reducible refine (impl_gcd.calls k a0_0 a0_1 t331 _ A8.out).mono ?_); rintro e w15 ⟨rfl, hb⟩; replace HO329 := rb_ HO329 hb; replace BK326 := bb_ BK326 hb; replace HB := bt_ HB hb; (try clear hb)))
   go_ret
   exact ⟨es_, (bw_ HB).out⟩
  obtain rfl := si_ H
  go_enter Try.func140, Try.ntmps140
  go_wp2_with (first | ((refine gd_ 1 ?_); refine by_ 1 #[.int .i64 a0_0, .int .i64 a0_1] 74 HB ?_; intro gb326 hg w16 BK326 hb GW326 HB_; replace HB := HB_; clear hb hg; obtain ⟨hcz17_0, hcz17_1, hfz17_0, hfz17_1⟩ := ch2_ BK326) | ((refine gd_ 13 ?_); refine Kd.R_lit (Kd.int .i64) _ 2 ?hg (N := 13) ?hd (xs := ([a0_0, a0_1] : List Int)) (inner := [.int .i64 a0_0, .int .i64 a0_1]) (ok := fun _ => True) (okp := fun _ => True) ?hr ?hp (fun _ hk => hk) trivial (Below.refl _ _) (Nat.le_refl _) (by simp) ?_; (case hd => rfl); (case hg => rfl); (case hr => first | (go_simp; done) | (go_simp; rfl)); (case hp => exact (Reps.one (show Kd.M (Kd.int .i64) _ _ _ a0_0 [.int .i64 a0_0] from rfl) (Reps.one (show Kd.M (Kd.int .i64) _ _ _ a0_1 [.int .i64 a0_1] from rfl) (Reps.none _ _)))); intro v328 w18 ho19 hb hg_ hnew_; clear hg_ hnew_; (first | rw [← Ny327.out] at ho19 | (simp only [Int.reduceToNat] at ho19; rw [← Ny327.out] at ho19)); have HO329 := Aside0.mk (Kd.R_lower ho19 (below_size (bw_ HB).out)); replace BK326 := bb_ BK326 hb; replace HB := bt_ HB hb; clear hb ho19; obtain ⟨Ao20, co20, eo20⟩ := Kd.R_slice HO329.out; subst eo20) | ((refine gc_ 102 ?_); refine ge_ 14 Try.func102 #[.int .i64 1000000, .slice Ao20 y327.length co20] ?_; (with_reducible refine (impl_within.calls k 1000000 _ _ y327 true _ ?side1 ?side2 A5.out).mono ?_); (case side1 => exact ca_ (Kd.R_reads' HO329.out).2.2); (case side2 => exact (Kd.R_reads' HO329.out).2.1); rintro e w' ⟨rfl, ⟨nd, rfl⟩⟩; refine ⟨_, rfl, ?_⟩; obtain ⟨hcz21_0, hcz21_1, hfz21_0, hfz21_1⟩ := ch2_ BK326))
  go_ret
  exact ⟨es_, (bw_ HB).out⟩
 obtain rfl := si_ H
 go_enter Try.func140, Try.ntmps140
 go_wp2_with (first | ((refine gd_ 1 ?_); refine by_ 1 #[.int .i64 a0_0, .int .i64 a0_1] 74 HB ?_; intro gb326 hg w22 BK326 hb GW326 HB_; replace HB := HB_; clear hb hg; obtain ⟨hcz23_0, hcz23_1, hfz23_0, hfz23_1⟩ := ch2_ BK326) | ((refine gd_ 13 ?_); refine Kd.R_lit (Kd.int .i64) _ 2 ?hg (N := 13) ?hd (xs := ([a0_0, a0_1] : List Int)) (inner := [.int .i64 a0_0, .int .i64 a0_1]) (ok := fun _ => True) (okp := fun _ => True) ?hr ?hp (fun _ hk => hk) trivial (Below.refl _ _) (Nat.le_refl _) (by simp) ?_; (case hd => rfl); (case hg => rfl); (case hr => first | (go_simp; done) | (go_simp; rfl)); (case hp => exact (Reps.one (show Kd.M (Kd.int .i64) _ _ _ a0_0 [.int .i64 a0_0] from rfl) (Reps.one (show Kd.M (Kd.int .i64) _ _ _ a0_1 [.int .i64 a0_1] from rfl) (Reps.none _ _)))); intro v328 w24 ho25 hb hg_ hnew_; clear hg_ hnew_; (first | rw [← Ny327.out] at ho25 | (simp only [Int.reduceToNat] at ho25; rw [← Ny327.out] at ho25)); have HO329 := Aside0.mk (Kd.R_lower ho25 (below_size (bw_ HB).out)); replace BK326 := bb_ BK326 hb; replace HB := bt_ HB hb; clear hb ho25; obtain ⟨Ao26, co26, eo26⟩ := Kd.R_slice HO329.out; subst eo26) | ((refine gc_ 102 ?_); refine ge_ 14 Try.func102 #[.int .i64 1000000, .slice Ao26 y327.length co26] ?_; (with_reducible refine (impl_within.calls k 1000000 _ _ y327 false _ ?side1 ?side2 A5.out).mono ?_); (case side1 => exact ca_ (Kd.R_reads' HO329.out).2.2); (case side2 => exact (Kd.R_reads' HO329.out).2.1); rintro e w' ⟨rfl, ⟨nd, rfl⟩⟩; refine ⟨_, rfl, ?_⟩))
 go_ret
 exact ⟨es_, (bw_ HB).out⟩
def impl_areMatrices.l0 : Nat → List (S46) → Int → Int → Option (Bool)
 | 0, _, _, _ => none
 | k + 1, x5, x6, x7 => if x7 < x6 then (if 0 ≤ x7 then (if x7 < (x5.length : Int) then ((impl_IsMatrix.f k ((rd_T46 x5 x7).f0.f0) ((rd_T46 x5 x7).f0.f1) ((rd_T46 x5 x7).f1.f0) ((rd_T46 x5 x7).f1.f1)).bind fun t334 => (if t334 = true then (impl_areMatrices.l0 k x5 x6 (wrap64 (x7 + 1))) else (some false))) else (none)) else (none)) else (some true)
def impl_areMatrices.f (k : Nat) (l0 : List (S46)) : Option (Bool) := impl_areMatrices.l0 k l0 (l0.length : Int) 0
theorem impl_areMatrices.calls (k : Nat) (A0 : Option Addr) (c0 : Nat) (l0 : List (S46)) (r : Bool) (w : World) (hr0 : Kd.C k46 w A0 l0.length l0) (hc0 : l0.length ≤ c0) (h : impl_areMatrices.f k l0 = some r) :
  Calls Try.prog 99 #[.slice A0 l0.length c0] w fun e w' => e = .returned (.bool r) ∧ Below w.heap.size w w' := by
 have hu46 := Try.underlying46
 have HR0 := Aside0.mk hr0
 have HC0 := Aside0.mk hc0
 clear hr0 hc0
 have HB := Aside0.mk (Below.refl w.heap.size w)
 unfold impl_areMatrices.f at h
 have H := h
 clear h
 have H' := Aside0.mk H
 clear H
 go_enter Try.func99, Try.ntmps99
 go_wp2
 go_loopg [7] k (fun kq v7 w' => ∃ (x7_1 : Int), v7 = .int .i64 x7_1 ∧ Aside0 (impl_areMatrices.l0 kq l0 (l0.length : Int) x7_1 = some r) ∧ Aside0 (kq ≤ k) ∧ Aside0 (Below w.heap.size w w'))
 case atStart => exact ⟨(0), en_, H', ⟨Nat.le_refl _⟩, bw_ HB⟩
 clear H'
 obtain ⟨x7_1, rfl, HA, HK1, HB⟩ := hrel
 cases gk with
 | zero => exact absurd HA.out (by simp [impl_areMatrices.l0])
 | succ k1 =>
  have H := HA.out
  clear HA
  simp only [impl_areMatrices.l0] at H
  replace H := il_ H
  rcases H with ⟨c2b0, H⟩ | ⟨c2b0, H⟩
  ·replace H := imn_ H
   obtain ⟨c3b0, H⟩ := H
   replace H := iln_ H
   obtain ⟨c4b0, H⟩ := H
   replace H := oc_ H
   obtain ⟨t334, A5, H⟩ := H
   replace H := ib_ H
   rcases H with ⟨rfl, H⟩ | ⟨rfl, H⟩
   ·have H' := Aside0.mk H
    clear H
    have p332 : 0 ≤ (x7_1 : Int) := od_
    have q332 : x7_1 < (l0.length : Int) := od_
    obtain ⟨ad332, e332, hx332_0, hx332_1, hx332_2, hx332_3⟩ := at_T46 HR0.out x7_1 p332 q332
    cases e332
    replace hx332_0 := clTr HB.out hx332_0
    replace hx332_1 := clTr HB.out hx332_1
    replace hx332_2 := clTr HB.out hx332_2
    replace hx332_3 := clTr HB.out hx332_3
    replace p332 := eq_true p332
    replace q332 := eq_true q332
    go_wp2_with (first | ((refine gd_ 4 ?_); refine by_ 4 #[.int .i64 0, .int .i64 0, .int .i64 0, .int .i64 0] 46 HB ?_; intro gb333 hg w7 BK333 hb GW333 HB_; replace HB := HB_; clear hb hg; obtain ⟨hcz8_0, hcz8_1, hcz8_2, hcz8_3, hfz8_0, hfz8_1, hfz8_2, hfz8_3⟩ := ch4_ BK333) | ((refine gc_ 29 ?_); refine ge_ 12 Try.func29 #[.agg #[.int .i64 ((rd_T46 l0 x7_1).f0.f0), .int .i64 ((rd_T46 l0 x7_1).f0.f1), .int .i64 ((rd_T46 l0 x7_1).f1.f0), .int .i64 ((rd_T46 l0 x7_1).f1.f1)]] ?_; (with_reducible refine (impl_IsMatrix.calls k1 ((rd_T46 l0 x7_1).f0.f0) ((rd_T46 l0 x7_1).f0.f1) ((rd_T46 l0 x7_1).f1.f0) ((rd_T46 l0 x7_1).f1.f1) true _ A5.out).mono ?_); rintro e w9 ⟨rfl, hb⟩; refine ⟨_, rfl, ?_⟩; replace BK333 := Aside0.mk (blk_below (g := gb333) (o := .cells #[.int .i64 ((rd_T46 l0 x7_1).f0.f0), .int .i64 ((rd_T46 l0 x7_1).f0.f1), .int .i64 ((rd_T46 l0 x7_1).f1.f0), .int .i64 ((rd_T46 l0 x7_1).f1.f1)] 46 (0, 0)) (bp_ BK333).out hb); replace HB := bt_ HB hb; (try clear hb)))
    go_roundg k1
    case measure => have := HK1.out; omega
    case rel => exact ⟨(wrap64 (x7_1 + 1)), en_, H', ⟨by have := HK1.out; omega⟩, bw_ HB⟩
   obtain rfl := si_ H
   have p332 : 0 ≤ (x7_1 : Int) := od_
   have q332 : x7_1 < (l0.length : Int) := od_
   obtain ⟨ad332, e332, hx332_0, hx332_1, hx332_2, hx332_3⟩ := at_T46 HR0.out x7_1 p332 q332
   cases e332
   replace hx332_0 := clTr HB.out hx332_0
   replace hx332_1 := clTr HB.out hx332_1
   replace hx332_2 := clTr HB.out hx332_2
   replace hx332_3 := clTr HB.out hx332_3
   replace p332 := eq_true p332
   replace q332 := eq_true q332
   go_wp2_with (first | ((refine gd_ 4 ?_); refine by_ 4 #[.int .i64 0, .int .i64 0, .int .i64 0, .int .i64 0] 46 HB ?_; intro gb333 hg w10 BK333 hb GW333 HB_; replace HB := HB_; clear hb hg; obtain ⟨hcz11_0, hcz11_1, hcz11_2, hcz11_3, hfz11_0, hfz11_1, hfz11_2, hfz11_3⟩ := ch4_ BK333) | ((refine gc_ 29 ?_); refine ge_ 12 Try.func29 #[.agg #[.int .i64 ((rd_T46 l0 x7_1).f0.f0), .int .i64 ((rd_T46 l0 x7_1).f0.f1), .int .i64 ((rd_T46 l0 x7_1).f1.f0), .int .i64 ((rd_T46 l0 x7_1).f1.f1)]] ?_; (with_reducible refine (impl_IsMatrix.calls k1 ((rd_T46 l0 x7_1).f0.f0) ((rd_T46 l0 x7_1).f0.f1) ((rd_T46 l0 x7_1).f1.f0) ((rd_T46 l0 x7_1).f1.f1) false _ A5.out).mono ?_); rintro e w12 ⟨rfl, hb⟩; refine ⟨_, rfl, ?_⟩; replace BK333 := Aside0.mk (blk_below (g := gb333) (o := .cells #[.int .i64 ((rd_T46 l0 x7_1).f0.f0), .int .i64 ((rd_T46 l0 x7_1).f0.f1), .int .i64 ((rd_T46 l0 x7_1).f1.f0), .int .i64 ((rd_T46 l0 x7_1).f1.f1)] 46 (0, 0)) (bp_ BK333).out hb); replace HB := bt_ HB hb; (try clear hb)))
   go_ret
   exact ⟨es_, (bw_ HB).out⟩
  obtain rfl := si_ H
  go_wp2
  go_ret
  exact ⟨es_, (bw_ HB).out⟩
def impl_isPrime.f (a0 : Int) : Option (Bool) := if a0 = 2 then (some true) else (if a0 = 3 then (some true) else (if a0 = 5 then (some true) else (some (a0 == 7))))
theorem impl_isPrime.calls (a0 : Int) (r : Bool) (w : World) (h : impl_isPrime.f a0 = some r) :
  Calls Try.prog 118 #[.int .i64 a0] w fun e w' => e = .returned (.bool r) ∧ Drawn0 w w' := by
 unfold impl_isPrime.f at h
 have H := h
 clear h
 replace H := ie_ H
 rcases H with ⟨c2b0, c2b1, H⟩ | ⟨c2, c2b0, c2b1, H⟩
 ·obtain rfl := si_ H
  go_enter Try.func118, Try.ntmps118
  go_wp2
  go_ret
  exact ⟨en_, de_⟩
 replace H := ie_ H
 rcases H with ⟨c3b0, c3b1, H⟩ | ⟨c3, c3b0, c3b1, H⟩
 ·obtain rfl := si_ H
  go_enter Try.func118, Try.ntmps118
  go_wp2
  go_ret
  exact ⟨en_, de_⟩
 replace H := ie_ H
 rcases H with ⟨c4b0, c4b1, H⟩ | ⟨c4, c4b0, c4b1, H⟩
 ·obtain rfl := si_ H
  go_enter Try.func118, Try.ntmps118
  go_wp2
  go_ret
  exact ⟨en_, de_⟩
 obtain rfl := si_ H
 go_enter Try.func118, Try.ntmps118
 go_wp2
 go_ret
 exact ⟨en_, de_⟩
def impl_isLevel.f (a0 : Int) : Option (Bool) := if a0 ≥ (-6) then (some (decide (a0 ≤ 6))) else (some false)
theorem impl_isLevel.calls (a0 : Int) (r : Bool) (w : World) (h : impl_isLevel.f a0 = some r) :
  Calls Try.prog 161 #[.int .i64 a0] w fun e w' => e = .returned (.bool r) ∧ Drawn0 w w' := by
 unfold impl_isLevel.f at h
 have H := h
 clear h
 replace H := in_ H
 rcases H with ⟨c2b0, H⟩ | ⟨c2b0, H⟩
 ·obtain rfl := si_ H
  go_enter Try.func161, Try.ntmps161
  go_wp2
  go_ret
  exact ⟨en_, de_⟩
 obtain rfl := si_ H
 go_enter Try.func161, Try.ntmps161
 go_wp2
 go_ret
 exact ⟨en_, de_⟩
def impl_power.l0 : Nat → Int → Int → Int → Int → Option (Int)
 | 0, _, _, _, _ => none
 | k + 1, x0, x5, x6, x7 => if x7 < x6 then (impl_power.l0 k x0 (wrap64 (x5 * x0)) x6 (wrap64 (x7 + 1))) else (some x5)
def impl_power.f (k : Nat) (a0 a1 : Int) : Option (Int) := impl_power.l0 k a0 1 a1 0
theorem impl_power.calls (k : Nat) (a0 a1 r : Int) (w : World) (h : impl_power.f k a0 a1 = some r) :
  Calls Try.prog 162 #[.int .i64 a0, .int .i64 a1] w fun e w' => e = .returned (.int .i64 r) ∧ Drawn0 w w' := by
 unfold impl_power.f at h
 have H := h
 clear h
 have H' := Aside0.mk H
 clear H
 go_enter Try.func162, Try.ntmps162
 go_wp2
 go_loopg [5, 7] k (fun kq v5 v7 w' => ∃ (x5_1 : Int) (x7_1 : Int), v5 = .int .i64 x5_1 ∧ v7 = .int .i64 x7_1 ∧ Aside0 (impl_power.l0 kq a0 x5_1 a1 x7_1 = some r) ∧ Aside0 (kq ≤ k) ∧ Drawn0 w w')
 case atStart => exact ⟨(1), (0), en_, en_, H', ⟨Nat.le_refl _⟩, de_⟩
 clear H'
 obtain ⟨x5_1, x7_1, rfl, rfl, HA, HK1, ⟨m1, rfl⟩⟩ := hrel
 cases gk with
 | zero => exact absurd HA.out (by simp [impl_power.l0])
 | succ k1 =>
  have H := HA.out
  clear HA
  simp only [impl_power.l0] at H
  replace H := il_ H
  rcases H with ⟨c3b0, H⟩ | ⟨c3b0, H⟩
  ·have H' := Aside0.mk H
   clear H
   go_wp2
   go_roundg k1
   case measure => have := HK1.out; omega
   case rel => exact ⟨(wrap64 (x5_1 * a0)), (wrap64 (x7_1 + 1)), en_, en_, H', ⟨by have := HK1.out; omega⟩, de_⟩
  obtain rfl := si_ H
  go_wp2
  go_ret
  exact ⟨en_, de_⟩
def impl_IsBall.j0 : Nat → Int → Bool → Int → Int → Int → Option (Bool)
 | 0, _, _, _, _, _ => none
 | k + 1, x0, x24, x336000, x336001, x336002 => if x24 = true then (some false) else (if (wrap64 (x336000 + x336002)) ≤ 0 then (if x336001 = 0 then (some (x336002 == 0)) else (some false)) else (if x336001 ≥ 0 then ((impl_power.f k x0 (wrap64 (x336000 + x336002))).bind fun t338 => (if x336001 < t338 then (if x336002 = 0 then (some true) else (if x0 = 0 then (none) else (some ((Int.tmod x336001 x0) != 0)))) else (some false))) else (some false)))
def impl_IsBall.f (k : Nat) (a0 a1_0 a1_1 a1_2 : Int) : Option (Bool) := (impl_isPrime.f a0).bind fun t336 => (if t336 = true then ((impl_isLevel.f a1_0).bind fun t337 => (if t337 = true then (if a1_2 < 0 then (impl_IsBall.j0 k a0 true a1_0 a1_1 a1_2) else (impl_IsBall.j0 k a0 (decide (a1_2 > 6)) a1_0 a1_1 a1_2)) else (impl_IsBall.j0 k a0 true a1_0 a1_1 a1_2))) else (impl_IsBall.j0 k a0 true a1_0 a1_1 a1_2))
theorem impl_IsBall.calls (k : Nat) (a0 a1_0 a1_1 a1_2 : Int) (r : Bool) (w : World) (h : impl_IsBall.f k a0 a1_0 a1_1 a1_2 = some r) :
  Calls Try.prog 94 #[.int .i64 a0, .agg #[.int .i64 a1_0, .int .i64 a1_1, .int .i64 a1_2]] w fun e w' => e = .returned (.bool r) ∧ Below w.heap.size w w' := by
 have hu25 := Try.underlying25
 have HB := Aside0.mk (Below.refl w.heap.size w)
 unfold impl_IsBall.f at h
 have H := h
 clear h
 have HC3 := Aside0.mk H
 clear H
 go_enter Try.func94, Try.ntmps94
 go_upto_region 1 with (first | ((refine gd_ 3 ?_); refine by_ 3 #[.int .i64 a1_0, .int .i64 a1_1, .int .i64 a1_2] 25 HB ?_; intro gb335 hg w4 BK335 hb GW335 HB_; replace HB := HB_; clear hb hg))
 repeat (go_quiet (first | ((refine gd_ 3 ?_); refine by_ 3 #[.int .i64 a1_0, .int .i64 a1_1, .int .i64 a1_2] 25 HB ?_; intro gb335 hg w4 BK335 hb GW335 HB_; replace HB := HB_; clear hb hg)); go_upto_region 1 with (first | ((refine gd_ 3 ?_); refine by_ 3 #[.int .i64 a1_0, .int .i64 a1_1, .int .i64 a1_2] 25 HB ?_; intro gb335 hg w4 BK335 hb GW335 HB_; replace HB := HB_; clear hb hg)))
 (try simp only [Act.put, lstS, lstZ, lstC])
 go_cut [24] (fun v24 wc => ∃ (kq : Nat) (x24_2 : Bool), v24 = .bool x24_2 ∧ Aside0 (impl_IsBall.j0 kq a0 x24_2 a1_0 a1_1 a1_2 = some r) ∧ Aside0 (kq ≤ k) ∧ Aside0 (wc.heap[gb335]? = some (.cells #[.int .i64 a1_0, .int .i64 a1_1, .int .i64 a1_2] 25 (0, 0))) ∧ Aside0 (Below w.heap.size w wc))
 case first =>
  have H := HC3.out
  clear HC3
  replace H := oc_ H
  obtain ⟨t336, A5, H⟩ := H
  replace H := ib_ H
  rcases H with ⟨rfl, H⟩ | ⟨rfl, H⟩
  ·replace H := oc_ H
   obtain ⟨t337, A7, H⟩ := H
   replace H := ib_ H
   rcases H with ⟨rfl, H⟩ | ⟨rfl, H⟩
   ·replace H := il_ H
    rcases H with ⟨c9b0, H⟩ | ⟨c9b0, H⟩
    ·(first | rw [c9b0] | (simp only [i64_w, i32_w]; rw [c9b0]) | skip)
     have H' := Aside0.mk H
     clear H
     go_wp2_with (first | (go_at_call 118; (with_reducible refine (impl_isPrime.calls a0 true _ A5.out).mono ?_); rintro e w' ⟨rfl, ⟨nd, rfl⟩⟩; (try exact dd_); obtain ⟨hcz10_0, hcz10_1, hcz10_2, hfz10_0, hfz10_1, hfz10_2⟩ := ch3_ BK335) | (go_at_call 161; (with_reducible refine (impl_isLevel.calls a1_0 true _ A7.out).mono ?_); rintro e w' ⟨rfl, ⟨nd, rfl⟩⟩; (try exact dd_)))
     repeat (go_quiet (first | (go_at_call 118; (with_reducible refine (impl_isPrime.calls a0 true _ A5.out).mono ?_); rintro e w' ⟨rfl, ⟨nd, rfl⟩⟩; (try exact dd_); obtain ⟨hcz10_0, hcz10_1, hcz10_2, hfz10_0, hfz10_1, hfz10_2⟩ := ch3_ BK335) | (go_at_call 161; (with_reducible refine (impl_isLevel.calls a1_0 true _ A7.out).mono ?_); rintro e w' ⟨rfl, ⟨nd, rfl⟩⟩; (try exact dd_))); try go_wp2_with (first | (go_at_call 118; (with_reducible refine (impl_isPrime.calls a0 true _ A5.out).mono ?_); rintro e w' ⟨rfl, ⟨nd, rfl⟩⟩; (try exact dd_); obtain ⟨hcz10_0, hcz10_1, hcz10_2, hfz10_0, hfz10_1, hfz10_2⟩ := ch3_ BK335) | (go_at_call 161; (with_reducible refine (impl_isLevel.calls a1_0 true _ A7.out).mono ?_); rintro e w' ⟨rfl, ⟨nd, rfl⟩⟩; (try exact dd_))))
     go_meet
     case rel => exact ⟨_, (true), en_, H', ⟨by first | omega | exact Nat.le_refl _⟩, bl_ BK335, bw_ HB⟩
    (first | rw [c9b0] | (simp only [i64_w, i32_w]; rw [c9b0]) | skip)
    have H' := Aside0.mk H
    clear H
    go_wp2_with (first | (go_at_call 118; (with_reducible refine (impl_isPrime.calls a0 true _ A5.out).mono ?_); rintro e w' ⟨rfl, ⟨nd, rfl⟩⟩; (try exact dd_); obtain ⟨hcz11_0, hcz11_1, hcz11_2, hfz11_0, hfz11_1, hfz11_2⟩ := ch3_ BK335) | (go_at_call 161; (with_reducible refine (impl_isLevel.calls a1_0 true _ A7.out).mono ?_); rintro e w' ⟨rfl, ⟨nd, rfl⟩⟩; (try exact dd_)))
    repeat (go_quiet (first | (go_at_call 118; (with_reducible refine (impl_isPrime.calls a0 true _ A5.out).mono ?_); rintro e w' ⟨rfl, ⟨nd, rfl⟩⟩; (try exact dd_); obtain ⟨hcz11_0, hcz11_1, hcz11_2, hfz11_0, hfz11_1, hfz11_2⟩ := ch3_ BK335) | (go_at_call 161; (with_reducible refine (impl_isLevel.calls a1_0 true _ A7.out).mono ?_); rintro e w' ⟨rfl, ⟨nd, rfl⟩⟩; (try exact dd_))); try go_wp2_with (first | (go_at_call 118; (with_reducible refine (impl_isPrime.calls a0 true _ A5.out).mono ?_); rintro e w' ⟨rfl, ⟨nd, rfl⟩⟩; (try exact dd_); obtain ⟨hcz11_0, hcz11_1, hcz11_2, hfz11_0, hfz11_1, hfz11_2⟩ := ch3_ BK335) | (go_at_call 161; (with_reducible refine (impl_isLevel.calls a1_0 true _ A7.out).mono ?_); rintro e w' ⟨rfl, ⟨nd, rfl⟩⟩; (try exact dd_))))
    go_meet
    case rel => exact ⟨_, (decide (a1_2 > 6)), en_, H', ⟨by first | omega | exact Nat.le_refl _⟩, bl_ BK335, bw_ HB⟩
   have H' := Aside0.mk H
   clear H
   go_wp2_with (first | (go_at_call 118; (with_reducible refine (impl_isPrime.calls a0 true _ A5.out).mono ?_); rintro e w' ⟨rfl, ⟨nd, rfl⟩⟩; (try exact dd_); obtain ⟨hcz12_0, hcz12_1, hcz12_2, hfz12_0, hfz12_1, hfz12_2⟩ := ch3_ BK335) | (go_at_call 161; (with_reducible refine (impl_isLevel.calls a1_0 false _ A7.out).mono ?_); rintro e w' ⟨rfl, ⟨nd, rfl⟩⟩; (try exact dd_)))
   repeat (go_quiet (first | (go_at_call 118; (with_reducible refine (impl_isPrime.calls a0 true _ A5.out).mono ?_); rintro e w' ⟨rfl, ⟨nd, rfl⟩⟩; (try exact dd_); obtain ⟨hcz12_0, hcz12_1, hcz12_2, hfz12_0, hfz12_1, hfz12_2⟩ := ch3_ BK335) | (go_at_call 161; (with_reducible refine (impl_isLevel.calls a1_0 false _ A7.out).mono ?_); rintro e w' ⟨rfl, ⟨nd, rfl⟩⟩; (try exact dd_))); try go_wp2_with (first | (go_at_call 118; (with_reducible refine (impl_isPrime.calls a0 true _ A5.out).mono ?_); rintro e w' ⟨rfl, ⟨nd, rfl⟩⟩; (try exact dd_); obtain ⟨hcz12_0, hcz12_1, hcz12_2, hfz12_0, hfz12_1, hfz12_2⟩ := ch3_ BK335) | (go_at_call 161; (with_reducible refine (impl_isLevel.calls a1_0 false _ A7.out).mono ?_); rintro e w' ⟨rfl, ⟨nd, rfl⟩⟩; (try exact dd_))))
   go_meet
   case rel => exact ⟨_, (true), en_, H', ⟨by first | omega | exact Nat.le_refl _⟩, bl_ BK335, bw_ HB⟩
  have H' := Aside0.mk H
  clear H
  go_wp2_with (first | (go_at_call 118; (with_reducible refine (impl_isPrime.calls a0 false _ A5.out).mono ?_); rintro e w' ⟨rfl, ⟨nd, rfl⟩⟩; (try exact dd_)))
  repeat (go_quiet (first | (go_at_call 118; (with_reducible refine (impl_isPrime.calls a0 false _ A5.out).mono ?_); rintro e w' ⟨rfl, ⟨nd, rfl⟩⟩; (try exact dd_))); try go_wp2_with (first | (go_at_call 118; (with_reducible refine (impl_isPrime.calls a0 false _ A5.out).mono ?_); rintro e w' ⟨rfl, ⟨nd, rfl⟩⟩; (try exact dd_))))
  go_meet
  case rel => exact ⟨_, (true), en_, H', ⟨by first | omega | exact Nat.le_refl _⟩, bl_ BK335, bw_ HB⟩
 clear HC3
 try clear c9b0
 try clear hcz10_0 hcz10_1 hcz10_2
 try clear hcz11_0 hcz11_1 hcz11_2
 try clear hcz12_0 hcz12_1 hcz12_2
 try clear hfz10_0 hfz10_1 hfz10_2
 try clear hfz11_0 hfz11_1 hfz11_2
 try clear hfz12_0 hfz12_1 hfz12_2
 obtain ⟨kq, x24_2, rfl, HA, HJ2, BK335, HB⟩ := hcut
 cases kq with
 | zero => exact absurd HA.out (by simp [impl_IsBall.j0])
 | succ kj2 =>
  have H := HA.out
  clear HA
  simp only [impl_IsBall.j0] at H
  replace H := ib_ H
  rcases H with ⟨rfl, H⟩ | ⟨rfl, H⟩
  ·obtain rfl := si_ H
   go_wp2
   repeat (go_quiet (fail); try go_wp2)
   go_ret
   exact ⟨es_, (bw_ HB).out⟩
  replace H := im_ H
  rcases H with ⟨c14b0, H⟩ | ⟨c14b0, H⟩
  ·replace H := ie_ H
   rcases H with ⟨c15b0, c15b1, H⟩ | ⟨c15, c15b0, c15b1, H⟩
   ·obtain rfl := si_ H
    obtain ⟨hcz16_0, hcz16_1, hcz16_2, hfz16_0, hfz16_1, hfz16_2⟩ := ch3_ BK335
    go_wp2
    repeat (go_quiet (fail); try go_wp2)
    go_ret
    exact ⟨es_, (bw_ HB).out⟩
   obtain rfl := si_ H
   obtain ⟨hcz17_0, hcz17_1, hcz17_2, hfz17_0, hfz17_1, hfz17_2⟩ := ch3_ BK335
   go_wp2
   repeat (go_quiet (fail); try go_wp2)
   go_ret
   exact ⟨es_, (bw_ HB).out⟩
  replace H := in_ H
  rcases H with ⟨c18b0, H⟩ | ⟨c18b0, H⟩
  ·replace H := oc_ H
   obtain ⟨t338, A19, H⟩ := H
   replace H := il_ H
   rcases H with ⟨c20b0, H⟩ | ⟨c20b0, H⟩
   ·replace H := ie_ H
    rcases H with ⟨c21b0, c21b1, H⟩ | ⟨c21, c21b0, c21b1, H⟩
    ·obtain rfl := si_ H
     obtain ⟨hcz22_0, hcz22_1, hcz22_2, hfz22_0, hfz22_1, hfz22_2⟩ := ch3_ BK335
     go_wp2_with (first | (go_at_call 162; (with_reducible refine (impl_power.calls kj2 a0 (wrap64 (a1_0 + a1_2)) t338 _ A19.out).mono ?_); rintro e w' ⟨rfl, ⟨nd, rfl⟩⟩; (try exact dd_)))
     repeat (go_quiet (first | (go_at_call 162; (with_reducible refine (impl_power.calls kj2 a0 (wrap64 (a1_0 + a1_2)) t338 _ A19.out).mono ?_); rintro e w' ⟨rfl, ⟨nd, rfl⟩⟩; (try exact dd_))); try go_wp2_with (first | (go_at_call 162; (with_reducible refine (impl_power.calls kj2 a0 (wrap64 (a1_0 + a1_2)) t338 _ A19.out).mono ?_); rintro e w' ⟨rfl, ⟨nd, rfl⟩⟩; (try exact dd_))))
     go_ret
     exact ⟨es_, (bw_ HB).out⟩
    replace H := ief_ H
    obtain ⟨c23, c23b0, c23b1, H⟩ := H
    obtain rfl := si_ H
    obtain ⟨hcz24_0, hcz24_1, hcz24_2, hfz24_0, hfz24_1, hfz24_2⟩ := ch3_ BK335
    go_wp2_with (first | (go_at_call 162; (with_reducible refine (impl_power.calls kj2 a0 (wrap64 (a1_0 + a1_2)) t338 _ A19.out).mono ?_); rintro e w' ⟨rfl, ⟨nd, rfl⟩⟩; (try exact dd_)))
    repeat (go_quiet (first | (go_at_call 162; (with_reducible refine (impl_power.calls kj2 a0 (wrap64 (a1_0 + a1_2)) t338 _ A19.out).mono ?_); rintro e w' ⟨rfl, ⟨nd, rfl⟩⟩; (try exact dd_))); try go_wp2_with (first | (go_at_call 162; (with_reducible refine (impl_power.calls kj2 a0 (wrap64 (a1_0 + a1_2)) t338 _ A19.out).mono ?_); rintro e w' ⟨rfl, ⟨nd, rfl⟩⟩; (try exact dd_))))
    go_ret
    exact ⟨es_, (bw_ HB).out⟩
   obtain rfl := si_ H
   obtain ⟨hcz25_0, hcz25_1, hcz25_2, hfz25_0, hfz25_1, hfz25_2⟩ := ch3_ BK335
   go_wp2_with (first | (go_at_call 162; (with_reducible refine (impl_power.calls kj2 a0 (wrap64 (a1_0 + a1_2)) t338 _ A19.out).mono ?_); rintro e w' ⟨rfl, ⟨nd, rfl⟩⟩; (try exact dd_)))
   repeat (go_quiet (first | (go_at_call 162; (with_reducible refine (impl_power.calls kj2 a0 (wrap64 (a1_0 + a1_2)) t338 _ A19.out).mono ?_); rintro e w' ⟨rfl, ⟨nd, rfl⟩⟩; (try exact dd_))); try go_wp2_with (first | (go_at_call 162; (with_reducible refine (impl_power.calls kj2 a0 (wrap64 (a1_0 + a1_2)) t338 _ A19.out).mono ?_); rintro e w' ⟨rfl, ⟨nd, rfl⟩⟩; (try exact dd_))))
   go_ret
   exact ⟨es_, (bw_ HB).out⟩
  obtain rfl := si_ H
  obtain ⟨hcz26_0, hcz26_1, hcz26_2, hfz26_0, hfz26_1, hfz26_2⟩ := ch3_ BK335
  go_wp2
  repeat (go_quiet (fail); try go_wp2)
  go_ret
  exact ⟨es_, (bw_ HB).out⟩
end Go.Proofs.Ytgoeelhiffbjlaa.QB
