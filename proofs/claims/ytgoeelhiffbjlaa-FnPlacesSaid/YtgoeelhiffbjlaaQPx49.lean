import Derived.Test.YtgoeelhiffbjlaaQPx9
import Derived.Test.YtgoeelhiffbjlaaQPx44
import Derived.Test.YtgoeelhiffbjlaaQPx47
import Derived.Test.YtgoeelhiffbjlaaQPx48
namespace Go.Proofs.Ytgoeelhiffbjlaa.QP
open Go.RowKit Go.Proofs.YtgoeelhiffbjlaaW.PrintWords Go.Proofs.YtgoeelhiffbjlaaW.PrintLast Go.Proofs.YtgoeelhiffbjlaaW.PrintMore
attribute [local go_sem] isSome_setCell max2_int min2_int max_two min_two max_three min_three max_four min_four
set_option linter.unusedVariables false
set_option linter.unusedSimpArgs false

/-! ### spec_l07Ball: function 114 -/
mutual
def spec_l07Ball.l0 : Nat → Int → List Int → Int → Int → Int → Int → Option (Int × Int × Int × Bool)
 | 0, _, _, _, _, _, _ => none
 | k + 1, x0, x8, x9, x412000, x412001, x412002 => if x9 > 0 then ((spec_l07Parent.f x0 x9).bind fun t416 => ((spec_l07Child.f x0 t416).bind fun bt417 => (if x8.length < 17592186044416 then ((spec_l07Parent.f x0 x9).bind fun t422 => (spec_l07Ball.l0 k x0 (x8 ++ [wrap64 (x9 - bt417.1)]) t422 x412000 x412001 x412002)) else (none)))) else (spec_l07Ball.l1 k x0 x8 false (wrap64 ((x8.length : Int) - 1)) x412000 x412001 x412002 0 0 0)
def spec_l07Ball.l1 : Nat → Int → List Int → Bool → Int → Int → Int → Int → Int → Int → Int → Option (Int × Int × Int × Bool)
 | 0, _, _, _, _, _, _, _, _, _, _ => none
 | k + 1, x0, x8, x14, x15, x424000, x424001, x424002, x425000, x425001, x425002 => if x15 ≥ 0 then (if 0 ≤ x15 then (if x15 < (x8.length : Int) then ((spec_l07Next.f k x0 x424000 x424001 x424002 x425000 x425001 x425002 x14 (rd x8 x15)).bind fun bt426 => (if bt426.2.2.2 = true then (spec_l07Ball.l1 k x0 x8 true (wrap64 (x15 - 1)) bt426.1 bt426.2.1 bt426.2.2.1 x424000 x424001 x424002) else (some (0, 0, 0, false)))) else (none)) else (none)) else (some (x424000, x424001, x424002, true))
end
def spec_l07Ball.f (k : Nat) (a0 a1_0 a1_1 a1_2 a2 : Int) : Option (Int × Int × Int × Bool) := spec_l07Ball.l0 k a0 (([] : List Int)) a2 a1_0 a1_1 a1_2
def spec_l07Ball.T11 : Bool × List (List Nat × List Nat) := (true, [([], []), ([], []), ([], []), ([], []), ([], []), ([], []), ([4, 5], [4, 5]), ([6], [6]), ([0, 1, 2, 3, 7], [0, 1, 2, 3, 7]), ([8], [8]), ([9], [9]), ([9], [9]), ([], []), ([12, 10, 8, 0, 1, 2, 3, 4, 5, 6, 7, 8, 9, 10, 12], [10, 12]), ([11, 13, 0, 1, 2, 3, 4, 5, 6, 7, 8, 9, 10, 11, 12, 13], [11])])
def spec_l07Ball.B11 : List Nat := [0, 0, 0, 0, 0, 0, 48, 112, 255, 511, 1023, 1023, 0, 6143, 16383]
theorem spec_l07Ball.tab11 : rtab .any (opsOf Try.f114 11) = spec_l07Ball.T11 := by kernel_rfl
theorem spec_l07Ball.bits11 : waitsOk spec_l07Ball.T11.2 spec_l07Ball.B11 = true := by kernel_rfl
set_option maxHeartbeats 8000000 in
set_option maxRecDepth 100000 in
theorem spec_l07Ball.calls (k : Nat) (a0 a1_0 a1_1 a1_2 a2 r1 r2 r3 : Int) (r4 : Bool) (w : World) (h : spec_l07Ball.f k a0 a1_0 a1_1 a1_2 a2 = some (r1, r2, r3, r4)) :
  Calls Try.prog 114 #[.int .i64 a0, .agg #[.int .i64 a1_0, .int .i64 a1_1, .int .i64 a1_2], .int .i64 a2] w fun e w' => e = .returned (.tuple #[.agg #[.int .i64 r1, .int .i64 r2, .int .i64 r3], .bool r4]) ∧ Below w.heap.size w w' := by
 have hu25 := Try.underlying25
 have HB := Aside0.mk (Below.refl w.heap.size w)
 unfold spec_l07Ball.f at h
 have H := h
 clear h
 obtain ⟨y413, hy413⟩ : ∃ y_ : List Int, y_ = (([] : List Int)) := ⟨_, rfl⟩
 replace H : (spec_l07Ball.l0 k a0 y413 a2 a1_0 a1_1 a1_2) = some (r1, r2, r3, r4) := by first | (rw [hy413]; with_reducible exact H) | (have H2_ := (Option.bind_some _ _).symm.trans H; rw [hy413]; with_reducible exact H2_) | (have H2_ := (Option.bind_some _ _).symm.trans H; with_reducible exact H2_) | with_reducible exact H | (rw [hy413]; exact H) | exact H
 have Ny413 := Aside0.mk hy413
 clear hy413
 have H' := Aside0.mk H
 clear H
 go_enter Try.func114, Try.ntmps114
 go_wp2_with (first | ((refine gd_ 4 ?_); refine by_ 4 #[.int .i64 a1_0, .int .i64 a1_1, .int .i64 a1_2] 25 HB ?_; intro gb411 hg w4 BK411 hb GW411 HB_; replace HB := HB_; clear hb hg) | ((refine gd_ 6 ?_); refine by_ 6 #[.int .i64 0, .int .i64 0, .int .i64 0] 25 HB ?_; intro gb412 hg w5 BK412 hb GW412 HB_; have NB411_412 := bm_ BK411 hg; have NB412_411 := bn_ BK411 hg; replace BK411 := bb_ BK411 hb; replace HB := HB_; clear hb hg) | ((refine gd_ 18 ?_); refine Kd.R_lit (Kd.int .i64) _ 2 ?hg (N := 18) ?hd (xs := ([] : List Int)) (inner := []) (ok := fun _ => True) (okp := fun _ => True) ?hr ?hp (fun _ hk => hk) trivial (Below.refl _ _) (Nat.le_refl _) (by simp) ?_; (case hd => rfl); (case hg => rfl); (case hr => first | (go_simp; done) | (go_simp; rfl)); (case hp => exact (Reps.none _ _)); intro v414 w6 ho7 hb hg_ hnew_; clear hg_ hnew_; (first | rw [← Ny413.out] at ho7 | (simp only [Int.reduceToNat] at ho7; rw [← Ny413.out] at ho7)); have HO415 := Aside0.mk (Kd.R_lower ho7 (below_size (bw_ HB).out)); replace BK411 := bb_ BK411 hb; replace BK412 := bb_ BK412 hb; replace HB := bt_ HB hb; clear hb ho7))
 go_loopg [8, 9] k (fun kq v8 v9 w' => ∃ (x8_1 : List Int) (x9_1 : Int), v9 = .int .i64 x9_1 ∧ Aside0 (spec_l07Ball.l0 kq a0 x8_1 x9_1 a1_0 a1_1 a1_2 = some (r1, r2, r3, r4)) ∧ Aside0 (kq ≤ k) ∧ Aside0 (Kd.R (Kd.int .i64) 2 w' w.heap.size (fun _ => True) v8 x8_1) ∧ Aside0 (w'.heap[gb411]? = some (.cells #[.int .i64 a1_0, .int .i64 a1_1, .int .i64 a1_2] 25 (0, 0))) ∧ Aside0 (w'.heap[gb412]? = some (.cells #[.int .i64 0, .int .i64 0, .int .i64 0] 25 (0, 0))) ∧ Aside0 (Below w.heap.size w w'))
 case atStart => exact ⟨(y413), (a2), en_, H', ⟨Nat.le_refl _⟩, ⟨by (with_reducible repeat (first | apply Kd.R_alloc | apply Kd.R_drewN | apply Kd.R_drew)); exact HO415.out⟩, bl_ BK411, bl_ BK412, bw_ HB⟩
 clear H'
 obtain ⟨x8_1, x9_1, rfl, HA, HK1, HO_8, BK411, BK412, HB⟩ := hrel
 cases gk with
 | zero => exact absurd HA.out (by simp [spec_l07Ball.l0])
 | succ k1 =>
  have H := HA.out
  clear HA
  simp only [spec_l07Ball.l0] at H
  replace H := ig_ H
  rcases H with ⟨c8b0, H⟩ | ⟨c8b0, H⟩
  ·replace H := oc_ H
   obtain ⟨t416, A9, H⟩ := H
   replace H := oc_ H
   obtain ⟨⟨t417, t418⟩, A10, H⟩ := H
   by_cases c11 : x8_1.length < 17592186044416
   ·rw [if_pos c11] at H
    have LMc11 := Aside0.mk c11
    clear c11
    obtain ⟨y419, hy419⟩ : ∃ y_ : List Int, y_ = (x8_1 ++ [wrap64 (x9_1 - t417)]) := ⟨_, rfl⟩
    replace H : ((spec_l07Parent.f a0 x9_1).bind fun t422 => (spec_l07Ball.l0 k1 a0 y419 t422 a1_0 a1_1 a1_2)) = some (r1, r2, r3, r4) := by first | (rw [hy419]; with_reducible exact H) | (have H2_ := (Option.bind_some _ _).symm.trans H; rw [hy419]; with_reducible exact H2_) | (have H2_ := (Option.bind_some _ _).symm.trans H; with_reducible exact H2_) | with_reducible exact H | (rw [hy419]; exact H) | exact H
    have Ny419 := Aside0.mk hy419
    clear hy419
    replace H := oc_ H
    obtain ⟨t422, A12, H⟩ := H
    have H' := Aside0.mk H
    clear H
    go_wp2_with (first | ((refine gc_ 127 ?_); refine ge_ 29 Try.func127 #[.int .i64 a0, .int .i64 x9_1] ?_; (with_reducible refine (spec_l07Parent.calls a0 x9_1 t416 _ A9.out).mono ?_); rintro e w' ⟨rfl, ⟨nd, rfl⟩⟩; refine ⟨_, rfl, ?_⟩) | ((refine gc_ 122 ?_); refine ge_ 30 Try.func122 #[.int .i64 a0, .int .i64 t416] ?_; (with_reducible refine (spec_l07Child.calls a0 t416 t417 t418 _ A10.out).mono ?_); rintro e w' ⟨rfl, ⟨nd, rfl⟩⟩; refine ⟨_, rfl, ?_⟩) | ((with_reducible refine gate_builtin (b := .append) (xs := #[.tmp 33, .tmp 37]) rfl ?_); at_builtin; refine Kd.R_append (Kd.int .i64) (w0 := w) w.heap.size rfl (.tmp 33) (.tmp 37) 41 2 (.int .i64 0) 8 rfl Try.underlying41 info2 rfl (by decide) (by omega) u8 x8_1 (wrap64 (x9_1 - t417)) [.int .i64 (wrap64 (x9_1 - t417))] (fun _ => True) (fun _ => False) rfl rfl ?aP (fun _ hk => hk.elim) ?aF ?aO ?aB ?aS ?aL ?_; (case aP => exact rfl); (case aB => exact (bw_ HB).out); (case aF => exact (fun _ _ => trivial)); (case aO => exact (ra_ HO_8.out)); (case aS => exact (below_size (bw_ HB).out)); (case aL => have := LMc11.out; omega); intro v420 w13 ho hb hg hat; rw [← Ny419.out] at ho; have n0_ := Aside0.mk (blk_grown (g := gb411) (o := .cells #[.int .i64 a1_0, .int .i64 a1_1, .int .i64 a1_2] 25 (0, 0)) (bl_ BK411).out hg (Kd.R_ne HO_8.out BK411.out (by decide))); have n1_ := Aside0.mk (blk_grown (g := gb412) (o := .cells #[.int .i64 0, .int .i64 0, .int .i64 0] 25 (0, 0)) (bl_ BK412).out hg (Kd.R_ne HO_8.out BK412.out (by decide))); have n2_ := Aside0.mk (hb); have n3_ := Aside0.mk (ho); clear BK411; clear BK412; clear HB; clear HO_8; have BK411 := n0_; have BK412 := n1_; have HB := n2_; have HO421 := n3_; clear n0_ n1_ n2_ n3_; clear ho hb hg hat) | ((refine gc_ 127 ?_); refine ge_ 24 Try.func127 #[.int .i64 a0, .int .i64 x9_1] ?_; (with_reducible refine (spec_l07Parent.calls a0 x9_1 t422 _ A12.out).mono ?_); rintro e w' ⟨rfl, ⟨nd, rfl⟩⟩; refine ⟨_, rfl, ?_⟩))
    go_roundg k1
    case measure => have := HK1.out; omega
    case rel => exact ⟨(y419), (t422), en_, H', ⟨by have := HK1.out; omega⟩, ⟨by (with_reducible repeat (first | apply Kd.R_alloc | apply Kd.R_drewN | apply Kd.R_drew)); exact HO421.out⟩, bl_ BK411, bl_ BK412, bw_ HB⟩
   rw [if_neg c11] at H
   exact absurd H (by simp)
  have H' := Aside0.mk H
  clear H
  have hnb14 := NB411_412.out
  have hnc14 := NB412_411.out
  obtain ⟨hcz15_0, hcz15_1, hcz15_2, hfz15_0, hfz15_1, hfz15_2⟩ := ch3_ BK411
  go_wp2_with (first | ((refine gd_ 12 ?_); refine bx_ 12 #[.int .i64 0, .int .i64 0, .int .i64 0] 25 ?_; intro gb423 hg w16 BK423 hb; have GW423 := bs_ HB hg; have NB411_423 := bm_ BK411 hg; have NB423_411 := bn_ BK411 hg; have NB412_423 := bm_ BK412 hg; have NB423_412 := bn_ BK412 hg; replace HO_8 := rb_ HO_8 hb; replace BK411 := bb_ BK411 hb; replace BK412 := bb_ BK412 hb; replace HB := bt_ HB hb; clear hb hg) | ((refine gd_ 13 ?_); refine bx_ 13 #[.int .i64 0, .int .i64 0, .int .i64 0] 25 ?_; intro gb424 hg w17 BK424 hb; have GW424 := bs_ HB hg; have NB411_424 := bm_ BK411 hg; have NB424_411 := bn_ BK411 hg; have NB412_424 := bm_ BK412 hg; have NB424_412 := bn_ BK412 hg; have NB423_424 := bm_ BK423 hg; have NB424_423 := bn_ BK423 hg; replace HO_8 := rb_ HO_8 hb; replace BK411 := bb_ BK411 hb; replace BK412 := bb_ BK412 hb; replace BK423 := bb_ BK423 hb; replace HB := bt_ HB hb; clear hb hg; have hnb18 := NB423_411.out; have hnc18 := NB411_423.out; have hnb19 := NB423_412.out; have hnc19 := NB412_423.out; have hnb20 := NB423_424.out; have hnc20 := NB424_423.out; obtain ⟨hcz21_0, hcz21_1, hcz21_2, hfz21_0, hfz21_1, hfz21_2⟩ := ch3_ BK423; have hnb22 := NB424_411.out; have hnc22 := NB411_424.out; have hnb23 := NB424_412.out; have hnc23 := NB412_424.out; obtain ⟨hcz24_0, hcz24_1, hcz24_2, hfz24_0, hfz24_1, hfz24_2⟩ := ch3_ BK424; obtain ⟨Ao25, co25, eo25⟩ := Kd.R_slice HO_8.out; subst eo25))
  go_loopg [14, 15] k1 (fun kq v14 v15 w' => ∃ (x14_2 : Bool) (x15_2 : Int) (x413000_2 : Int) (x413001_2 : Int) (x413002_2 : Int) (x424000_2 : Int) (x424001_2 : Int) (x424002_2 : Int) (x425000_2 : Int) (x425001_2 : Int) (x425002_2 : Int), v14 = .bool x14_2 ∧ v15 = .int .i64 x15_2 ∧ Aside0 (spec_l07Ball.l1 kq a0 x8_1 x14_2 x15_2 x424000_2 x424001_2 x424002_2 x425000_2 x425001_2 x425002_2 = some (r1, r2, r3, r4)) ∧ Aside0 (kq ≤ k1) ∧ Aside0 (Kd.R (Kd.int .i64) 2 w' w.heap.size (fun _ => True) (.slice Ao25 x8_1.length co25) x8_1) ∧ Aside0 (w'.heap[gb411]? = some (.cells #[.int .i64 a1_0, .int .i64 a1_1, .int .i64 a1_2] 25 (0, 0))) ∧ Aside0 (w'.heap[gb412]? = some (.cells #[.int .i64 x413000_2, .int .i64 x413001_2, .int .i64 x413002_2] 25 (0, 0))) ∧ Aside0 (w'.heap[gb423]? = some (.cells #[.int .i64 x424000_2, .int .i64 x424001_2, .int .i64 x424002_2] 25 (0, 0))) ∧ Aside0 (w'.heap[gb424]? = some (.cells #[.int .i64 x425000_2, .int .i64 x425001_2, .int .i64 x425002_2] 25 (0, 0))) ∧ Aside0 (Below w.heap.size w w'))
  case atStart => exact ⟨(false), (wrap64 ((x8_1.length : Int) - 1)), (0), (0), (0), (a1_0), (a1_1), (a1_2), (0), (0), (0), en_, en_, H', ⟨Nat.le_refl _⟩, ⟨by (with_reducible repeat (first | apply Kd.R_alloc | apply Kd.R_drewN | apply Kd.R_drew)); exact Kd.R_mono (Kd.R_far (p := ⟨gb424, 2, none⟩) (Kd.R_far (p := ⟨gb424, 1, none⟩) (Kd.R_far (p := ⟨gb424, 0, none⟩) (Kd.R_far (p := ⟨gb423, 2, none⟩) (Kd.R_far (p := ⟨gb423, 1, none⟩) (Kd.R_far (p := ⟨gb423, 0, none⟩) (Kd.R_types (Kd.R_types HO_8.out BK423.out (by decide)) BK424.out (by decide)) (fun _ hk => hk.1.2) (.int .i64 a1_0)) (fun _ hk => hk.1.2) (.int .i64 a1_1)) (fun _ hk => hk.1.2) (.int .i64 a1_2)) (fun _ hk => hk.2) (.int .i64 0)) (fun _ hk => hk.2) (.int .i64 0)) (fun _ hk => hk.2) (.int .i64 0)) (fun _ hk => trivial)⟩, bp_ BK411, bp_ BK412, bp_ BK423, bp_ BK424, bw_ HB⟩
  clear H'
  try clear c8b0
  try clear c11
  try clear hcz15_0 hcz15_1 hcz15_2
  try clear hcz21_0 hcz21_1 hcz21_2
  try clear hcz24_0 hcz24_1 hcz24_2
  try clear hfz15_0 hfz15_1 hfz15_2
  try clear hfz21_0 hfz21_1 hfz21_2
  try clear hfz24_0 hfz24_1 hfz24_2
  obtain ⟨x14_2, x15_2, x413000_2, x413001_2, x413002_2, x424000_2, x424001_2, x424002_2, x425000_2, x425001_2, x425002_2, rfl, rfl, HA, HK2, HO_8, BK411, BK412, BK423, BK424, HB⟩ := hrel
  cases gk with
  | zero => exact absurd HA.out (by simp [spec_l07Ball.l1])
  | succ k2 =>
   have H := HA.out
   clear HA
   simp only [spec_l07Ball.l1] at H
   replace H := in_ H
   rcases H with ⟨c26b0, H⟩ | ⟨c26b0, H⟩
   ·replace H := imn_ H
    obtain ⟨c27b0, H⟩ := H
    replace H := iln_ H
    obtain ⟨c28b0, H⟩ := H
    replace H := oc_ H
    obtain ⟨⟨t426, t427, t428, t429⟩, A29, H⟩ := H
    replace H := ib_ H
    rcases H with ⟨rfl, H⟩ | ⟨rfl, H⟩
    ·have H' := Aside0.mk H
     clear H
     try go_wp2
     replace HO_8 := Aside0.mk (Kd.R_drew HO_8.out)
     replace BK411 := bd_ BK411
     replace BK412 := bd_ BK412
     replace BK423 := bd_ BK423
     replace BK424 := bd_ BK424
     replace HB := be_ HB
     have p425 : 0 ≤ (x15_2 : Int) := od_
     have q425 : x15_2 < (x8_1.length : Int) := od_
     obtain ⟨ad425, e425, hx425_0⟩ := Kd.at_int (Kd.R_reads' HO_8.out).2.2 x15_2 p425 q425
     cases e425
     replace p425 := eq_true p425
     replace q425 := eq_true q425
     refine start_ (n := 15) (S := fun w' => w'.cell? ⟨gb423, 0, none⟩ = some (.int .i64 x424000_2) ∧ w'.cell? ⟨gb423, 1, none⟩ = some (.int .i64 x424001_2) ∧ w'.cell? ⟨gb423, 2, none⟩ = some (.int .i64 x424002_2) ∧ w'.cell? ⟨gb424, 0, none⟩ = some (.int .i64 x425000_2) ∧ w'.cell? ⟨gb424, 1, none⟩ = some (.int .i64 x425001_2) ∧ w'.cell? ⟨gb424, 2, none⟩ = some (.int .i64 x425002_2) ∧ w'.cell? (ad425.add (x15_2).toNat) = some (.int .i64 (rd x8_1 x15_2))) (ds := []) (bv_ 15 0) (by kernel_rfl) rfl rfl ⟨cz_ BK423 0, cz_ BK423 1, cz_ BK423 2, cz_ BK424 0, cz_ BK424 1, cz_ BK424 2, hx425_0⟩ (fun hHeld => ?_); refine with_tabW spec_l07Ball.tab11 spec_l07Ball.bits11 (fun HT_ HW_ => ?_)
     generalize wr.drew = w31 at HO_8 BK411 BK412 BK423 BK424 HB hx425_0 hHeld ⊢
     refine px_ HT_ 0 49 1 ?_
     refine px_ HT_ 3 52 9 ?_
     refine px_ HT_ 4 53 25 ?_
     refine px_ HT_ 5 54 57 ?_
     refine px_ HT_ 6 55 121 ?_
     refine ta_ HT_ HW_ 1 (some 50) (bv_ 15 123) hHeld ?_ (hy := by rintro w' ⟨s0, s1, s2, s3, s4, s5, s6⟩; go_simp; with_reducible rfl)
     refine ta_ HT_ HW_ 2 (some 51) (bv_ 15 127) hHeld ?_ (hy := by rintro w' ⟨s0, s1, s2, s3, s4, s5, s6⟩; go_simp; with_reducible rfl)
     refine ta_ HT_ HW_ 7 (some 56) (bv_ 15 255) hHeld ?_ (hy := by rintro w' ⟨s0, s1, s2, s3, s4, s5, s6⟩; go_simp; with_reducible rfl)
     refine join_ (σ := Nat) 2 (bv_ 15 8191) (fun s_ => [(57, .tuple #[.agg #[.int .i64 t426, .int .i64 t427, .int .i64 t428], .bool true]), (16, .pointer (some ⟨s_, 0, none⟩)), (48, .tuple #[.agg #[.int .i64 t426, .int .i64 t427, .int .i64 t428], .bool true]), (58, .agg #[.int .i64 t426, .int .i64 t427, .int .i64 t428]), (59, .bool true)]) (fun s_ w' => (w'.cell? ⟨gb423, 0, none⟩ = some (.int .i64 x424000_2) ∧ w'.cell? ⟨gb423, 1, none⟩ = some (.int .i64 x424001_2) ∧ w'.cell? ⟨gb423, 2, none⟩ = some (.int .i64 x424002_2) ∧ w'.cell? ⟨gb424, 0, none⟩ = some (.int .i64 x425000_2) ∧ w'.cell? ⟨gb424, 1, none⟩ = some (.int .i64 x425001_2) ∧ w'.cell? ⟨gb424, 2, none⟩ = some (.int .i64 x425002_2) ∧ w'.cell? (ad425.add (x15_2).toNat) = some (.int .i64 (rd x8_1 x15_2))) ∧ (Kd.R (Kd.int .i64) 2 w' w.heap.size (fun _ => True) (.slice (some ad425) x8_1.length co25) x8_1) ∧ (w'.heap[gb411]? = some (.cells #[.int .i64 a1_0, .int .i64 a1_1, .int .i64 a1_2] 25 (0, 0))) ∧ (w'.heap[gb412]? = some (.cells #[.int .i64 x413000_2, .int .i64 x413001_2, .int .i64 x413002_2] 25 (0, 0))) ∧ (w'.heap[gb423]? = some (.cells #[.int .i64 x424000_2, .int .i64 x424001_2, .int .i64 x424002_2] 25 (0, 0))) ∧ (w'.heap[gb424]? = some (.cells #[.int .i64 x425000_2, .int .i64 x425001_2, .int .i64 x425002_2] 25 (0, 0))) ∧ (w'.heap[s_]? = some (.cells #[.int .i64 0, .int .i64 0, .int .i64 0] 25 (0, 0))) ∧ (w.heap.size ≤ s_) ∧ (w.heap.size ≤ s_) ∧ (gb411 ≠ s_) ∧ (s_ ≠ gb411) ∧ (gb412 ≠ s_) ∧ (s_ ≠ gb412) ∧ (gb423 ≠ s_) ∧ (s_ ≠ gb423) ∧ (gb424 ≠ s_) ∧ (s_ ≠ gb424) ∧ (Below w.heap.size w w')) ?_ ?_
     rotate_left
     ·intro hCont
      refine tw_ HT_ 8 12 (some 57) (some 16) (bv_ 15 511) (bv_ 15 4351) (fun K hK => ?_) (fun K hK => ?_)
      ·skip
       refine gs_ Try.func126 #[.int .i64 a0, .agg #[.int .i64 x424000_2, .int .i64 x424001_2, .int .i64 x424002_2], .agg #[.int .i64 x425000_2, .int .i64 x425001_2, .int .i64 x425002_2], .bool x14_2, .int .i64 (rd x8_1 x15_2)] ?_
       with_reducible refine (spec_l07Next.calls k2 a0 x424000_2 x424001_2 x424002_2 x425000_2 x425001_2 x425002_2 x14_2 (rd x8_1 x15_2) t426 t427 t428 true _ A29.out).mono ?_
       rintro e w32 ⟨rfl, hb⟩
       have HS6_ := (hb.cell (World.block_lt_of_cell? _ _ (hHeld.2.2.2.2.2.2))).trans (hHeld.2.2.2.2.2.2)
       refine ⟨_, rfl, ?_⟩
       replace HO_8 := rb_ HO_8 hb
       replace BK411 := bb_ BK411 hb
       replace BK412 := bb_ BK412 hb
       replace BK423 := bb_ BK423 hb
       replace BK424 := bb_ BK424 hb
       replace HB := bt_ HB hb
       try clear hb
       refine hK.out _ _ ⟨cz_ BK423 0, cz_ BK423 1, cz_ BK423 2, cz_ BK424 0, cz_ BK424 1, cz_ BK424 2, HS6_⟩ (fun hHeld => ?_)
       clear hK K
       refine nm_ (some 57) ?_
       refine px_ HT_ 9 48 1023 ?_
       refine px_ HT_ 10 58 2047 ?_
       refine px_ HT_ 11 59 4095 ?_
       refine on_ HT_ 12 (some 16) (bv_ 15 8191) (fun K hK => ?_)
       refine bz_ 16 #[.int .i64 0, .int .i64 0, .int .i64 0] 25 ?_
       intro gb430 hg w33 BK430 hb
       have HS6_ := (hb.cell (World.block_lt_of_cell? _ _ (hHeld.2.2.2.2.2.2))).trans (hHeld.2.2.2.2.2.2)
       have GW430 := bs_ HB hg
       have NB411_430 := bm_ BK411 hg
       have NB430_411 := bn_ BK411 hg
       have NB412_430 := bm_ BK412 hg
       have NB430_412 := bn_ BK412 hg
       have NB423_430 := bm_ BK423 hg
       have NB430_423 := bn_ BK423 hg
       have NB424_430 := bm_ BK424 hg
       have NB430_424 := bn_ BK424 hg
       replace HO_8 := rb_ HO_8 hb
       replace BK411 := bb_ BK411 hb
       replace BK412 := bb_ BK412 hb
       replace BK423 := bb_ BK423 hb
       replace BK424 := bb_ BK424 hb
       replace HB := bt_ HB hb
       clear hb hg
       refine hK.out _ _ ⟨cz_ BK423 0, cz_ BK423 1, cz_ BK423 2, cz_ BK424 0, cz_ BK424 1, cz_ BK424 2, HS6_⟩ (fun hHeld => ?_)
       clear hK K
       refine nm_ (some 16) ?_
       exact norm_ (by simp only [putAll, Act.put, lstS, lstZ, lstC]) (hCont (gb430) _ ⟨hHeld, (ra_ HO_8.out), (bl_ BK411).out, (bl_ BK412).out, (bl_ BK423).out, (bl_ BK424).out, (bl_ BK430).out, GW430.out, GW430.out, NB411_430.out, NB430_411.out, NB412_430.out, NB430_412.out, NB423_430.out, NB430_423.out, NB424_430.out, NB430_424.out, (bw_ HB).out⟩)
      skip
      refine bz_ 16 #[.int .i64 0, .int .i64 0, .int .i64 0] 25 ?_
      intro gb430 hg w32 BK430 hb
      have HS6_ := (hb.cell (World.block_lt_of_cell? _ _ (hHeld.2.2.2.2.2.2))).trans (hHeld.2.2.2.2.2.2)
      have GW430 := bs_ HB hg
      have NB411_430 := bm_ BK411 hg
      have NB430_411 := bn_ BK411 hg
      have NB412_430 := bm_ BK412 hg
      have NB430_412 := bn_ BK412 hg
      have NB423_430 := bm_ BK423 hg
      have NB430_423 := bn_ BK423 hg
      have NB424_430 := bm_ BK424 hg
      have NB430_424 := bn_ BK424 hg
      replace HO_8 := rb_ HO_8 hb
      replace BK411 := bb_ BK411 hb
      replace BK412 := bb_ BK412 hb
      replace BK423 := bb_ BK423 hb
      replace BK424 := bb_ BK424 hb
      replace HB := bt_ HB hb
      clear hb hg
      refine hK.out _ _ ⟨cz_ BK423 0, cz_ BK423 1, cz_ BK423 2, cz_ BK424 0, cz_ BK424 1, cz_ BK424 2, HS6_⟩ (fun hHeld => ?_)
      clear hK K
      refine nm_ (some 16) ?_
      refine on_ HT_ 8 (some 57) (bv_ 15 4607) (fun K hK => ?_)
      refine gs_ Try.func126 #[.int .i64 a0, .agg #[.int .i64 x424000_2, .int .i64 x424001_2, .int .i64 x424002_2], .agg #[.int .i64 x425000_2, .int .i64 x425001_2, .int .i64 x425002_2], .bool x14_2, .int .i64 (rd x8_1 x15_2)] ?_
      with_reducible refine (spec_l07Next.calls k2 a0 x424000_2 x424001_2 x424002_2 x425000_2 x425001_2 x425002_2 x14_2 (rd x8_1 x15_2) t426 t427 t428 true _ A29.out).mono ?_
      rintro e w33 ⟨rfl, hb⟩
      have HS6_ := (hb.cell (World.block_lt_of_cell? _ _ (hHeld.2.2.2.2.2.2))).trans (hHeld.2.2.2.2.2.2)
      refine ⟨_, rfl, ?_⟩
      replace HO_8 := rb_ HO_8 hb
      replace BK411 := bb_ BK411 hb
      replace BK412 := bb_ BK412 hb
      replace BK423 := bb_ BK423 hb
      replace BK424 := bb_ BK424 hb
      replace BK430 := bb_ BK430 hb
      replace HB := bt_ HB hb
      try clear hb
      refine hK.out _ _ ⟨cz_ BK423 0, cz_ BK423 1, cz_ BK423 2, cz_ BK424 0, cz_ BK424 1, cz_ BK424 2, HS6_⟩ (fun hHeld => ?_)
      clear hK K
      refine nm_ (some 57) ?_
      refine px_ HT_ 9 48 5119 ?_
      refine px_ HT_ 10 58 6143 ?_
      refine px_ HT_ 11 59 8191 ?_
      exact norm_ (by simp only [putAll, Act.put, lstS, lstZ, lstC]) (hCont (gb430) _ ⟨hHeld, (ra_ HO_8.out), (bl_ BK411).out, (bl_ BK412).out, (bl_ BK423).out, (bl_ BK424).out, (bl_ BK430).out, GW430.out, GW430.out, NB411_430.out, NB430_411.out, NB412_430.out, NB430_412.out, NB423_430.out, NB430_423.out, NB424_430.out, NB430_424.out, (bw_ HB).out⟩)
     rintro gb430 w34 ⟨hS_, h0_, h1_, h2_, h3_, h4_, h5_, h6_, h7_, h8_, h9_, h10_, h11_, h12_, h13_, h14_, h15_, h16_⟩
     clear HO_8 BK411 BK412 BK423 BK424 HB
     have HO_8 := Aside0.mk h0_
     have BK411 := Aside0.mk h1_
     have BK412 := Aside0.mk h2_
     have BK423 := Aside0.mk h3_
     have BK424 := Aside0.mk h4_
     have BK430 := Aside0.mk h5_
     have GW430 := Aside0.mk h6_
     have GW430 := Aside0.mk h7_
     have NB411_430 := Aside0.mk h8_
     have NB430_411 := Aside0.mk h9_
     have NB412_430 := Aside0.mk h10_
     have NB430_412 := Aside0.mk h11_
     have NB423_430 := Aside0.mk h12_
     have NB430_423 := Aside0.mk h13_
     have NB424_430 := Aside0.mk h14_
     have NB430_424 := Aside0.mk h15_
     have HB := Aside0.mk h16_
     clear h0_ h1_ h2_ h3_ h4_ h5_ h6_ h7_ h8_ h9_ h10_ h11_ h12_ h13_ h14_ h15_ h16_
     have hHeld : w34.cell? ⟨gb423, 0, none⟩ = some (.int .i64 x424000_2) ∧ w34.cell? ⟨gb423, 1, none⟩ = some (.int .i64 x424001_2) ∧ w34.cell? ⟨gb423, 2, none⟩ = some (.int .i64 x424002_2) ∧ w34.cell? ⟨gb424, 0, none⟩ = some (.int .i64 x425000_2) ∧ w34.cell? ⟨gb424, 1, none⟩ = some (.int .i64 x425001_2) ∧ w34.cell? ⟨gb424, 2, none⟩ = some (.int .i64 x425002_2) ∧ w34.cell? (ad425.add (x15_2).toNat) = some (.int .i64 (rd x8_1 x15_2)) := hS_
     refine norm_ (a' := ?_) ?_ ?_
     rotate_left
     ·simp only [putAll, Act.put, lstS, lstZ, lstC]
      rfl
     refine on_ HT_ 13 none (bv_ 15 16383) (fun K hK => ?_)
     have hs35 : w34.cell? ⟨gb430, 0, none⟩ = some (.int .i64 0) := (blk_cell BK430.out 0).trans rfl
     have hfs35 := blk_frozen BK430.out 0
     have hns35_0 := NB411_430.out
     have hns35_1 := NB412_430.out
     have hns35_2 := NB423_430.out
     have hns35_3 := NB424_430.out
     have hms35_0 := NB430_411.out
     have hms35_1 := NB430_412.out
     have hms35_2 := NB430_423.out
     have hms35_3 := NB430_424.out
     have hs36 : w34.cell? ⟨gb430, 1, none⟩ = some (.int .i64 0) := (blk_cell BK430.out 1).trans rfl
     have hfs36 := blk_frozen BK430.out 1
     have hns36_0 := NB411_430.out
     have hns36_1 := NB412_430.out
     have hns36_2 := NB423_430.out
     have hns36_3 := NB424_430.out
     have hms36_0 := NB430_411.out
     have hms36_1 := NB430_412.out
     have hms36_2 := NB430_423.out
     have hms36_3 := NB430_424.out
     have hs37 : w34.cell? ⟨gb430, 2, none⟩ = some (.int .i64 0) := (blk_cell BK430.out 2).trans rfl
     have hfs37 := blk_frozen BK430.out 2
     have hns37_0 := NB411_430.out
     have hns37_1 := NB412_430.out
     have hns37_2 := NB423_430.out
     have hns37_3 := NB424_430.out
     have hms37_0 := NB430_411.out
     have hms37_1 := NB430_412.out
     have hms37_2 := NB430_423.out
     have hms37_3 := NB430_424.out
     refine skip_ (w1 := ?_) (by rfl) rfl ?_ ?_
     rotate_left
     ·go_simp
      rfl
     refine hK.out _ _ ⟨(cg_ NB423_430 ((cg_ NB423_430 ((cg_ NB423_430 (hHeld.1)))))), (cg_ NB423_430 ((cg_ NB423_430 ((cg_ NB423_430 (hHeld.2.1)))))), (cg_ NB423_430 ((cg_ NB423_430 ((cg_ NB423_430 (hHeld.2.2.1)))))), (cg_ NB424_430 ((cg_ NB424_430 ((cg_ NB424_430 (hHeld.2.2.2.1)))))), (cg_ NB424_430 ((cg_ NB424_430 ((cg_ NB424_430 (hHeld.2.2.2.2.1)))))), (cg_ NB424_430 ((cg_ NB424_430 ((cg_ NB424_430 (hHeld.2.2.2.2.2.1)))))), ((cell_far (p := ⟨gb430, _, none⟩) (by first | exact Kd.own_blk (Kd.R_ne HO_8.out BK430.out (by decide)) | (rw [add_block]; exact Kd.own_blk (Kd.R_ne HO_8.out BK430.out (by decide))) | (show (Addr.add _ _).block ≠ _; rw [add_block]; exact Kd.own_blk (Kd.R_ne HO_8.out BK430.out (by decide))) | (dsimp only; exact Kd.own_blk (Kd.R_ne HO_8.out BK430.out (by decide)))) _).trans (((cell_far (p := ⟨gb430, _, none⟩) (by first | exact Kd.own_blk (Kd.R_ne HO_8.out BK430.out (by decide)) | (rw [add_block]; exact Kd.own_blk (Kd.R_ne HO_8.out BK430.out (by decide))) | (show (Addr.add _ _).block ≠ _; rw [add_block]; exact Kd.own_blk (Kd.R_ne HO_8.out BK430.out (by decide))) | (dsimp only; exact Kd.own_blk (Kd.R_ne HO_8.out BK430.out (by decide)))) _).trans (((cell_far (p := ⟨gb430, _, none⟩) (by first | exact Kd.own_blk (Kd.R_ne HO_8.out BK430.out (by decide)) | (rw [add_block]; exact Kd.own_blk (Kd.R_ne HO_8.out BK430.out (by decide))) | (show (Addr.add _ _).block ≠ _; rw [add_block]; exact Kd.own_blk (Kd.R_ne HO_8.out BK430.out (by decide))) | (dsimp only; exact Kd.own_blk (Kd.R_ne HO_8.out BK430.out (by decide)))) _).trans (hHeld.2.2.2.2.2.2))))))⟩ (fun hHeld => ?_)
     clear hK K
     refine px_ HT_ 14 17 32767 ?_
     refine done_ (done_of HT_.out (by kernel_rfl)) ?_
     have hnb38 := NB423_411.out
     have hnc38 := NB411_423.out
     have hnb39 := NB423_412.out
     have hnc39 := NB412_423.out
     have hnb40 := NB423_424.out
     have hnc40 := NB424_423.out
     have hnb41 := NB423_430.out
     have hnc41 := NB430_423.out
     obtain ⟨hcz42_0, hcz42_1, hcz42_2, hfz42_0, hfz42_1, hfz42_2⟩ := ch3_ BK423
     have hnb43 := NB424_411.out
     have hnc43 := NB411_424.out
     have hnb44 := NB424_412.out
     have hnc44 := NB412_424.out
     have hnb45 := NB424_430.out
     have hnc45 := NB430_424.out
     obtain ⟨hcz46_0, hcz46_1, hcz46_2, hfz46_0, hfz46_1, hfz46_2⟩ := ch3_ BK424
     have hnb47 := NB430_411.out
     have hnc47 := NB411_430.out
     have hnb48 := NB430_412.out
     have hnc48 := NB412_430.out
     obtain ⟨hcz49_0, hcz49_1, hcz49_2, hfz49_0, hfz49_1, hfz49_2⟩ := ch3_ BK430
     try go_wp2
     go_roundg k2
     case measure => have := HK1.out; have := HK2.out; omega
     case rel => exact ⟨(true), (wrap64 (x15_2 - 1)), (x413000_2), (x413001_2), (x413002_2), (t426), (t427), (t428), (x424000_2), (x424001_2), (x424002_2), en_, en_, H', ⟨by have := HK1.out; have := HK2.out; omega⟩, ⟨by (with_reducible repeat (first | apply Kd.R_alloc | apply Kd.R_drewN | apply Kd.R_drew)); exact Kd.R_mono (Kd.R_far (p := ⟨gb423, 2, none⟩) (Kd.R_far (p := ⟨gb423, 1, none⟩) (Kd.R_far (p := ⟨gb423, 0, none⟩) (Kd.R_far (p := ⟨gb424, 2, none⟩) (Kd.R_far (p := ⟨gb424, 1, none⟩) (Kd.R_far (p := ⟨gb424, 0, none⟩) (Kd.R_far (p := ⟨gb430, 2, none⟩) (Kd.R_far (p := ⟨gb430, 1, none⟩) (Kd.R_far (p := ⟨gb430, 0, none⟩) (Kd.R_types (Kd.R_types (Kd.R_types HO_8.out BK430.out (by decide)) BK424.out (by decide)) BK423.out (by decide)) (fun _ hk => hk.1.1.2) (.int .i64 t426)) (fun _ hk => hk.1.1.2) (.int .i64 t427)) (fun _ hk => hk.1.1.2) (.int .i64 t428)) (fun _ hk => hk.1.2) (.int .i64 x424000_2)) (fun _ hk => hk.1.2) (.int .i64 x424001_2)) (fun _ hk => hk.1.2) (.int .i64 x424002_2)) (fun _ hk => hk.2) (.int .i64 t426)) (fun _ hk => hk.2) (.int .i64 t427)) (fun _ hk => hk.2) (.int .i64 t428)) (fun _ hk => trivial)⟩, bp_ BK411, bp_ BK412, bp_ BK423, bp_ BK424, bw_ HB⟩
    simp only [Option.some.injEq, Prod.mk.injEq] at H
    obtain ⟨rfl, rfl, rfl, rfl⟩ := H
    try go_wp2
    replace HO_8 := Aside0.mk (Kd.R_drew HO_8.out)
    replace BK411 := bd_ BK411
    replace BK412 := bd_ BK412
    replace BK423 := bd_ BK423
    replace BK424 := bd_ BK424
    replace HB := be_ HB
    have p425 : 0 ≤ (x15_2 : Int) := od_
    have q425 : x15_2 < (x8_1.length : Int) := od_
    obtain ⟨ad425, e425, hx425_0⟩ := Kd.at_int (Kd.R_reads' HO_8.out).2.2 x15_2 p425 q425
    cases e425
    replace p425 := eq_true p425
    replace q425 := eq_true q425
    refine start_ (n := 15) (S := fun w' => w'.cell? ⟨gb423, 0, none⟩ = some (.int .i64 x424000_2) ∧ w'.cell? ⟨gb423, 1, none⟩ = some (.int .i64 x424001_2) ∧ w'.cell? ⟨gb423, 2, none⟩ = some (.int .i64 x424002_2) ∧ w'.cell? ⟨gb424, 0, none⟩ = some (.int .i64 x425000_2) ∧ w'.cell? ⟨gb424, 1, none⟩ = some (.int .i64 x425001_2) ∧ w'.cell? ⟨gb424, 2, none⟩ = some (.int .i64 x425002_2) ∧ w'.cell? (ad425.add (x15_2).toNat) = some (.int .i64 (rd x8_1 x15_2))) (ds := []) (bv_ 15 0) (by kernel_rfl) rfl rfl ⟨cz_ BK423 0, cz_ BK423 1, cz_ BK423 2, cz_ BK424 0, cz_ BK424 1, cz_ BK424 2, hx425_0⟩ (fun hHeld => ?_); refine with_tabW spec_l07Ball.tab11 spec_l07Ball.bits11 (fun HT_ HW_ => ?_)
    generalize wr.drew = w50 at HO_8 BK411 BK412 BK423 BK424 HB hx425_0 hHeld ⊢
    refine px_ HT_ 0 49 1 ?_
    refine px_ HT_ 3 52 9 ?_
    refine px_ HT_ 4 53 25 ?_
    refine px_ HT_ 5 54 57 ?_
    refine px_ HT_ 6 55 121 ?_
    refine ta_ HT_ HW_ 1 (some 50) (bv_ 15 123) hHeld ?_ (hy := by rintro w' ⟨s0, s1, s2, s3, s4, s5, s6⟩; go_simp; with_reducible rfl)
    refine ta_ HT_ HW_ 2 (some 51) (bv_ 15 127) hHeld ?_ (hy := by rintro w' ⟨s0, s1, s2, s3, s4, s5, s6⟩; go_simp; with_reducible rfl)
    refine ta_ HT_ HW_ 7 (some 56) (bv_ 15 255) hHeld ?_ (hy := by rintro w' ⟨s0, s1, s2, s3, s4, s5, s6⟩; go_simp; with_reducible rfl)
    refine join_ (σ := Nat) 2 (bv_ 15 8191) (fun s_ => [(57, .tuple #[.agg #[.int .i64 t426, .int .i64 t427, .int .i64 t428], .bool false]), (16, .pointer (some ⟨s_, 0, none⟩)), (48, .tuple #[.agg #[.int .i64 t426, .int .i64 t427, .int .i64 t428], .bool false]), (58, .agg #[.int .i64 t426, .int .i64 t427, .int .i64 t428]), (59, .bool false)]) (fun s_ w' => (w'.cell? ⟨gb423, 0, none⟩ = some (.int .i64 x424000_2) ∧ w'.cell? ⟨gb423, 1, none⟩ = some (.int .i64 x424001_2) ∧ w'.cell? ⟨gb423, 2, none⟩ = some (.int .i64 x424002_2) ∧ w'.cell? ⟨gb424, 0, none⟩ = some (.int .i64 x425000_2) ∧ w'.cell? ⟨gb424, 1, none⟩ = some (.int .i64 x425001_2) ∧ w'.cell? ⟨gb424, 2, none⟩ = some (.int .i64 x425002_2) ∧ w'.cell? (ad425.add (x15_2).toNat) = some (.int .i64 (rd x8_1 x15_2))) ∧ (Kd.R (Kd.int .i64) 2 w' w.heap.size (fun _ => True) (.slice (some ad425) x8_1.length co25) x8_1) ∧ (w'.heap[gb411]? = some (.cells #[.int .i64 a1_0, .int .i64 a1_1, .int .i64 a1_2] 25 (0, 0))) ∧ (w'.heap[gb412]? = some (.cells #[.int .i64 x413000_2, .int .i64 x413001_2, .int .i64 x413002_2] 25 (0, 0))) ∧ (w'.heap[gb423]? = some (.cells #[.int .i64 x424000_2, .int .i64 x424001_2, .int .i64 x424002_2] 25 (0, 0))) ∧ (w'.heap[gb424]? = some (.cells #[.int .i64 x425000_2, .int .i64 x425001_2, .int .i64 x425002_2] 25 (0, 0))) ∧ (w'.heap[s_]? = some (.cells #[.int .i64 0, .int .i64 0, .int .i64 0] 25 (0, 0))) ∧ (w.heap.size ≤ s_) ∧ (w.heap.size ≤ s_) ∧ (gb411 ≠ s_) ∧ (s_ ≠ gb411) ∧ (gb412 ≠ s_) ∧ (s_ ≠ gb412) ∧ (gb423 ≠ s_) ∧ (s_ ≠ gb423) ∧ (gb424 ≠ s_) ∧ (s_ ≠ gb424) ∧ (Below w.heap.size w w')) ?_ ?_
    rotate_left
    ·intro hCont
     refine tw_ HT_ 8 12 (some 57) (some 16) (bv_ 15 511) (bv_ 15 4351) (fun K hK => ?_) (fun K hK => ?_)
     ·skip
      refine gs_ Try.func126 #[.int .i64 a0, .agg #[.int .i64 x424000_2, .int .i64 x424001_2, .int .i64 x424002_2], .agg #[.int .i64 x425000_2, .int .i64 x425001_2, .int .i64 x425002_2], .bool x14_2, .int .i64 (rd x8_1 x15_2)] ?_
      with_reducible refine (spec_l07Next.calls k2 a0 x424000_2 x424001_2 x424002_2 x425000_2 x425001_2 x425002_2 x14_2 (rd x8_1 x15_2) t426 t427 t428 false _ A29.out).mono ?_
      rintro e w51 ⟨rfl, hb⟩
      have HS6_ := (hb.cell (World.block_lt_of_cell? _ _ (hHeld.2.2.2.2.2.2))).trans (hHeld.2.2.2.2.2.2)
      refine ⟨_, rfl, ?_⟩
      replace HO_8 := rb_ HO_8 hb
      replace BK411 := bb_ BK411 hb
      replace BK412 := bb_ BK412 hb
      replace BK423 := bb_ BK423 hb
      replace BK424 := bb_ BK424 hb
      replace HB := bt_ HB hb
      try clear hb
      refine hK.out _ _ ⟨cz_ BK423 0, cz_ BK423 1, cz_ BK423 2, cz_ BK424 0, cz_ BK424 1, cz_ BK424 2, HS6_⟩ (fun hHeld => ?_)
      clear hK K
      refine nm_ (some 57) ?_
      refine px_ HT_ 9 48 1023 ?_
      refine px_ HT_ 10 58 2047 ?_
      refine px_ HT_ 11 59 4095 ?_
      refine on_ HT_ 12 (some 16) (bv_ 15 8191) (fun K hK => ?_)
      refine bz_ 16 #[.int .i64 0, .int .i64 0, .int .i64 0] 25 ?_
      intro gb430 hg w52 BK430 hb
      have HS6_ := (hb.cell (World.block_lt_of_cell? _ _ (hHeld.2.2.2.2.2.2))).trans (hHeld.2.2.2.2.2.2)
      have GW430 := bs_ HB hg
      have NB411_430 := bm_ BK411 hg
      have NB430_411 := bn_ BK411 hg
      have NB412_430 := bm_ BK412 hg
      have NB430_412 := bn_ BK412 hg
      have NB423_430 := bm_ BK423 hg
      have NB430_423 := bn_ BK423 hg
      have NB424_430 := bm_ BK424 hg
      have NB430_424 := bn_ BK424 hg
      replace HO_8 := rb_ HO_8 hb
      replace BK411 := bb_ BK411 hb
      replace BK412 := bb_ BK412 hb
      replace BK423 := bb_ BK423 hb
      replace BK424 := bb_ BK424 hb
      replace HB := bt_ HB hb
      clear hb hg
      refine hK.out _ _ ⟨cz_ BK423 0, cz_ BK423 1, cz_ BK423 2, cz_ BK424 0, cz_ BK424 1, cz_ BK424 2, HS6_⟩ (fun hHeld => ?_)
      clear hK K
      refine nm_ (some 16) ?_
      exact norm_ (by simp only [putAll, Act.put, lstS, lstZ, lstC]) (hCont (gb430) _ ⟨hHeld, (ra_ HO_8.out), (bl_ BK411).out, (bl_ BK412).out, (bl_ BK423).out, (bl_ BK424).out, (bl_ BK430).out, GW430.out, GW430.out, NB411_430.out, NB430_411.out, NB412_430.out, NB430_412.out, NB423_430.out, NB430_423.out, NB424_430.out, NB430_424.out, (bw_ HB).out⟩)
     skip
     refine bz_ 16 #[.int .i64 0, .int .i64 0, .int .i64 0] 25 ?_
     intro gb430 hg w51 BK430 hb
     have HS6_ := (hb.cell (World.block_lt_of_cell? _ _ (hHeld.2.2.2.2.2.2))).trans (hHeld.2.2.2.2.2.2)
     have GW430 := bs_ HB hg
     have NB411_430 := bm_ BK411 hg
     have NB430_411 := bn_ BK411 hg
     have NB412_430 := bm_ BK412 hg
     have NB430_412 := bn_ BK412 hg
     have NB423_430 := bm_ BK423 hg
     have NB430_423 := bn_ BK423 hg
     have NB424_430 := bm_ BK424 hg
     have NB430_424 := bn_ BK424 hg
     replace HO_8 := rb_ HO_8 hb
     replace BK411 := bb_ BK411 hb
     replace BK412 := bb_ BK412 hb
     replace BK423 := bb_ BK423 hb
     replace BK424 := bb_ BK424 hb
     replace HB := bt_ HB hb
     clear hb hg
     refine hK.out _ _ ⟨cz_ BK423 0, cz_ BK423 1, cz_ BK423 2, cz_ BK424 0, cz_ BK424 1, cz_ BK424 2, HS6_⟩ (fun hHeld => ?_)
     clear hK K
     refine nm_ (some 16) ?_
     refine on_ HT_ 8 (some 57) (bv_ 15 4607) (fun K hK => ?_)
     refine gs_ Try.func126 #[.int .i64 a0, .agg #[.int .i64 x424000_2, .int .i64 x424001_2, .int .i64 x424002_2], .agg #[.int .i64 x425000_2, .int .i64 x425001_2, .int .i64 x425002_2], .bool x14_2, .int .i64 (rd x8_1 x15_2)] ?_
     with_reducible refine (spec_l07Next.calls k2 a0 x424000_2 x424001_2 x424002_2 x425000_2 x425001_2 x425002_2 x14_2 (rd x8_1 x15_2) t426 t427 t428 false _ A29.out).mono ?_
     rintro e w52 ⟨rfl, hb⟩
     have HS6_ := (hb.cell (World.block_lt_of_cell? _ _ (hHeld.2.2.2.2.2.2))).trans (hHeld.2.2.2.2.2.2)
     refine ⟨_, rfl, ?_⟩
     replace HO_8 := rb_ HO_8 hb
     replace BK411 := bb_ BK411 hb
     replace BK412 := bb_ BK412 hb
     replace BK423 := bb_ BK423 hb
     replace BK424 := bb_ BK424 hb
     replace BK430 := bb_ BK430 hb
     replace HB := bt_ HB hb
     try clear hb
     refine hK.out _ _ ⟨cz_ BK423 0, cz_ BK423 1, cz_ BK423 2, cz_ BK424 0, cz_ BK424 1, cz_ BK424 2, HS6_⟩ (fun hHeld => ?_)
     clear hK K
     refine nm_ (some 57) ?_
     refine px_ HT_ 9 48 5119 ?_
     refine px_ HT_ 10 58 6143 ?_
     refine px_ HT_ 11 59 8191 ?_
     exact norm_ (by simp only [putAll, Act.put, lstS, lstZ, lstC]) (hCont (gb430) _ ⟨hHeld, (ra_ HO_8.out), (bl_ BK411).out, (bl_ BK412).out, (bl_ BK423).out, (bl_ BK424).out, (bl_ BK430).out, GW430.out, GW430.out, NB411_430.out, NB430_411.out, NB412_430.out, NB430_412.out, NB423_430.out, NB430_423.out, NB424_430.out, NB430_424.out, (bw_ HB).out⟩)
    rintro gb430 w53 ⟨hS_, h0_, h1_, h2_, h3_, h4_, h5_, h6_, h7_, h8_, h9_, h10_, h11_, h12_, h13_, h14_, h15_, h16_⟩
    clear HO_8 BK411 BK412 BK423 BK424 HB
    have HO_8 := Aside0.mk h0_
    have BK411 := Aside0.mk h1_
    have BK412 := Aside0.mk h2_
    have BK423 := Aside0.mk h3_
    have BK424 := Aside0.mk h4_
    have BK430 := Aside0.mk h5_
    have GW430 := Aside0.mk h6_
    have GW430 := Aside0.mk h7_
    have NB411_430 := Aside0.mk h8_
    have NB430_411 := Aside0.mk h9_
    have NB412_430 := Aside0.mk h10_
    have NB430_412 := Aside0.mk h11_
    have NB423_430 := Aside0.mk h12_
    have NB430_423 := Aside0.mk h13_
    have NB424_430 := Aside0.mk h14_
    have NB430_424 := Aside0.mk h15_
    have HB := Aside0.mk h16_
    clear h0_ h1_ h2_ h3_ h4_ h5_ h6_ h7_ h8_ h9_ h10_ h11_ h12_ h13_ h14_ h15_ h16_
    have hHeld : w53.cell? ⟨gb423, 0, none⟩ = some (.int .i64 x424000_2) ∧ w53.cell? ⟨gb423, 1, none⟩ = some (.int .i64 x424001_2) ∧ w53.cell? ⟨gb423, 2, none⟩ = some (.int .i64 x424002_2) ∧ w53.cell? ⟨gb424, 0, none⟩ = some (.int .i64 x425000_2) ∧ w53.cell? ⟨gb424, 1, none⟩ = some (.int .i64 x425001_2) ∧ w53.cell? ⟨gb424, 2, none⟩ = some (.int .i64 x425002_2) ∧ w53.cell? (ad425.add (x15_2).toNat) = some (.int .i64 (rd x8_1 x15_2)) := hS_
    refine norm_ (a' := ?_) ?_ ?_
    rotate_left
    ·simp only [putAll, Act.put, lstS, lstZ, lstC]
     rfl
    refine on_ HT_ 13 none (bv_ 15 16383) (fun K hK => ?_)
    have hs54 : w53.cell? ⟨gb430, 0, none⟩ = some (.int .i64 0) := (blk_cell BK430.out 0).trans rfl
    have hfs54 := blk_frozen BK430.out 0
    have hns54_0 := NB411_430.out
    have hns54_1 := NB412_430.out
    have hns54_2 := NB423_430.out
    have hns54_3 := NB424_430.out
    have hms54_0 := NB430_411.out
    have hms54_1 := NB430_412.out
    have hms54_2 := NB430_423.out
    have hms54_3 := NB430_424.out
    have hs55 : w53.cell? ⟨gb430, 1, none⟩ = some (.int .i64 0) := (blk_cell BK430.out 1).trans rfl
    have hfs55 := blk_frozen BK430.out 1
    have hns55_0 := NB411_430.out
    have hns55_1 := NB412_430.out
    have hns55_2 := NB423_430.out
    have hns55_3 := NB424_430.out
    have hms55_0 := NB430_411.out
    have hms55_1 := NB430_412.out
    have hms55_2 := NB430_423.out
    have hms55_3 := NB430_424.out
    have hs56 : w53.cell? ⟨gb430, 2, none⟩ = some (.int .i64 0) := (blk_cell BK430.out 2).trans rfl
    have hfs56 := blk_frozen BK430.out 2
    have hns56_0 := NB411_430.out
    have hns56_1 := NB412_430.out
    have hns56_2 := NB423_430.out
    have hns56_3 := NB424_430.out
    have hms56_0 := NB430_411.out
    have hms56_1 := NB430_412.out
    have hms56_2 := NB430_423.out
    have hms56_3 := NB430_424.out
    refine skip_ (w1 := ?_) (by rfl) rfl ?_ ?_
    rotate_left
    ·go_simp
     rfl
    refine hK.out _ _ ⟨(cg_ NB423_430 ((cg_ NB423_430 ((cg_ NB423_430 (hHeld.1)))))), (cg_ NB423_430 ((cg_ NB423_430 ((cg_ NB423_430 (hHeld.2.1)))))), (cg_ NB423_430 ((cg_ NB423_430 ((cg_ NB423_430 (hHeld.2.2.1)))))), (cg_ NB424_430 ((cg_ NB424_430 ((cg_ NB424_430 (hHeld.2.2.2.1)))))), (cg_ NB424_430 ((cg_ NB424_430 ((cg_ NB424_430 (hHeld.2.2.2.2.1)))))), (cg_ NB424_430 ((cg_ NB424_430 ((cg_ NB424_430 (hHeld.2.2.2.2.2.1)))))), ((cell_far (p := ⟨gb430, _, none⟩) (by first | exact Kd.own_blk (Kd.R_ne HO_8.out BK430.out (by decide)) | (rw [add_block]; exact Kd.own_blk (Kd.R_ne HO_8.out BK430.out (by decide))) | (show (Addr.add _ _).block ≠ _; rw [add_block]; exact Kd.own_blk (Kd.R_ne HO_8.out BK430.out (by decide))) | (dsimp only; exact Kd.own_blk (Kd.R_ne HO_8.out BK430.out (by decide)))) _).trans (((cell_far (p := ⟨gb430, _, none⟩) (by first | exact Kd.own_blk (Kd.R_ne HO_8.out BK430.out (by decide)) | (rw [add_block]; exact Kd.own_blk (Kd.R_ne HO_8.out BK430.out (by decide))) | (show (Addr.add _ _).block ≠ _; rw [add_block]; exact Kd.own_blk (Kd.R_ne HO_8.out BK430.out (by decide))) | (dsimp only; exact Kd.own_blk (Kd.R_ne HO_8.out BK430.out (by decide)))) _).trans (((cell_far (p := ⟨gb430, _, none⟩) (by first | exact Kd.own_blk (Kd.R_ne HO_8.out BK430.out (by decide)) | (rw [add_block]; exact Kd.own_blk (Kd.R_ne HO_8.out BK430.out (by decide))) | (show (Addr.add _ _).block ≠ _; rw [add_block]; exact Kd.own_blk (Kd.R_ne HO_8.out BK430.out (by decide))) | (dsimp only; exact Kd.own_blk (Kd.R_ne HO_8.out BK430.out (by decide)))) _).trans (hHeld.2.2.2.2.2.2))))))⟩ (fun hHeld => ?_)
    clear hK K
    refine px_ HT_ 14 17 32767 ?_
    refine done_ (done_of HT_.out (by kernel_rfl)) ?_
    have hnb57 := NB412_411.out
    have hnc57 := NB411_412.out
    have hnb58 := NB412_423.out
    have hnc58 := NB423_412.out
    have hnb59 := NB412_424.out
    have hnc59 := NB424_412.out
    have hnb60 := NB412_430.out
    have hnc60 := NB430_412.out
    obtain ⟨hcz61_0, hcz61_1, hcz61_2, hfz61_0, hfz61_1, hfz61_2⟩ := ch3_ BK412
    try go_wp2
    refine bodyPost_ret (results_ct rfl _ _ gb412 25 #[.int .i64 0, .int .i64 0, .int .i64 0] (0, 0) _ rfl (bp_ BK412).out Try.underlying25 rfl (by kernel_rfl)) rfl ?_
    exact ⟨es_, (bw_ HB).out⟩
   simp only [Option.some.injEq, Prod.mk.injEq] at H
   obtain ⟨rfl, rfl, rfl, rfl⟩ := H
   have hnb62 := NB423_411.out
   have hnc62 := NB411_423.out
   have hnb63 := NB423_412.out
   have hnc63 := NB412_423.out
   have hnb64 := NB423_424.out
   have hnc64 := NB424_423.out
   obtain ⟨hcz65_0, hcz65_1, hcz65_2, hfz65_0, hfz65_1, hfz65_2⟩ := ch3_ BK423
   have hnb66 := NB412_411.out
   have hnc66 := NB411_412.out
   have hnb67 := NB412_424.out
   have hnc67 := NB424_412.out
   obtain ⟨hcz68_0, hcz68_1, hcz68_2, hfz68_0, hfz68_1, hfz68_2⟩ := ch3_ BK412
   go_wp2
   refine bodyPost_ret (results_ct rfl _ _ gb412 25 #[.int .i64 x424000_2, .int .i64 x424001_2, .int .i64 x424002_2] (0, 0) _ rfl (bp_ BK412).out Try.underlying25 rfl (by kernel_rfl)) rfl ?_
   exact ⟨es_, (bw_ HB).out⟩
end Go.Proofs.Ytgoeelhiffbjlaa.QP
