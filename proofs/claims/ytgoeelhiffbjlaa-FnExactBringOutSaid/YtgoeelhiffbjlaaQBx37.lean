import Derived.Test.YtgoeelhiffbjlaaQBx7
namespace Go.Proofs.Ytgoeelhiffbjlaa.QB
set_option maxHeartbeats 8000000
set_option maxRecDepth 100000
open Go.RowKit YtgoeelhiffbjlaaW.PrintWords YtgoeelhiffbjlaaW.PrintLast YtgoeelhiffbjlaaW.PrintMore
attribute [local go_sem] isSome_setCell max2_int min2_int max_two min_two max_three min_three max_four min_four
set_option linter.unusedVariables false
set_option linter.unusedSimpArgs false
def laws_toInt64A2.l0 : Nat → Int → Int → Int → Int → Int → Option (Int × Int)
 | 0, _, _, _, _, _ => none
 | k + 1, x4, x259000, x259001, x261000, x261001 => if x4 < 2 then (if x4 = 0 then (laws_toInt64A2.l0 k (wrap64 (x4 + 1)) x259000 x259001 x259000 x261001) else (if x4 = 1 then (laws_toInt64A2.l0 k (wrap64 (x4 + 1)) x259000 x259001 x261000 x259001) else (none))) else (some (x261000, x261001))
def laws_toInt64A2.f (k : Nat) (a0_0 a0_1 : Int) : Option (Int × Int) := laws_toInt64A2.l0 k 0 a0_0 a0_1 0 0
theorem laws_toInt64A2.calls (k : Nat) (a0_0 a0_1 r1 r2 : Int) (w : World) (h : laws_toInt64A2.f k a0_0 a0_1 = some (r1, r2)) :
  Calls Try.prog 175 #[.agg #[.int .i64 a0_0, .int .i64 a0_1]] w fun e w' => e = .returned (.agg #[.int .i64 r1, .int .i64 r2]) ∧ Below w.heap.size w w' := by
 have hu44 := Try.underlying44
 have HB := Aside0.mk (Below.refl w.heap.size w)
 unfold laws_toInt64A2.f at h
 have H := h
 clear h
 have H' := Aside0.mk H
 clear H
 go_enter Try.func175, Try.ntmps175
 go_wp2_with (first | ((refine gd_ 1 ?_); refine by_ 1 #[.int .i64 a0_0, .int .i64 a0_1] 44 HB ?_; intro gb258 hg w2 BK258 hb GW258 HB_; replace HB := HB_; clear hb hg) | ((refine gd_ 2 ?_); refine by_ 2 #[.int .i64 0, .int .i64 0] 44 HB ?_; intro gb259 hg w3 BK259 hb GW259 HB_; have NB258_259 := bm_ BK258 hg; have NB259_258 := bn_ BK258 hg; replace BK258 := bb_ BK258 hb; replace HB := HB_; clear hb hg) | ((refine gd_ 3 ?_); refine by_ 3 #[.int .i64 0, .int .i64 0] 44 HB ?_; intro gb260 hg w4 BK260 hb GW260 HB_; have NB258_260 := bm_ BK258 hg; have NB260_258 := bn_ BK258 hg; have NB259_260 := bm_ BK259 hg; have NB260_259 := bn_ BK259 hg; replace BK258 := bb_ BK258 hb; replace BK259 := bb_ BK259 hb; replace HB := HB_; clear hb hg))
 go_loopg [4] k (fun kq v4 w' => ∃ (x4_1 : Int) (x261000_1 : Int) (x261001_1 : Int), v4 = .int .i64 x4_1 ∧ Aside0 (laws_toInt64A2.l0 kq x4_1 a0_0 a0_1 x261000_1 x261001_1 = some (r1, r2)) ∧ Aside0 (kq ≤ k) ∧ Aside0 (w'.heap[gb258]? = some (.cells #[.int .i64 a0_0, .int .i64 a0_1] 44 (0, 0))) ∧ Aside0 (w'.heap[gb259]? = some (.cells #[.int .i64 0, .int .i64 0] 44 (0, 0))) ∧ Aside0 (w'.heap[gb260]? = some (.cells #[.int .i64 x261000_1, .int .i64 x261001_1] 44 (0, 0))) ∧ Aside0 (Below w.heap.size w w'))
 case atStart => exact ⟨(0), (0), (0), en_, H', ⟨Nat.le_refl _⟩, bl_ BK258, bl_ BK259, bl_ BK260, bw_ HB⟩
 clear H'
 obtain ⟨x4_1, x261000_1, x261001_1, rfl, HA, HK1, BK258, BK259, BK260, HB⟩ := hrel
 cases gk with
 | zero => exact absurd HA.out (by simp [laws_toInt64A2.l0])
 | succ k1 =>
  have H := HA.out
  clear HA
  simp only [laws_toInt64A2.l0] at H
  replace H := il_ H
  rcases H with ⟨c5b0, H⟩ | ⟨c5b0, H⟩
  ·by_cases c6 : x4_1 = 0
   ·subst c6
    replace H := i1_ H
    have H' := Aside0.mk H
    clear H
    have hnb7 := NB258_259.out
    have hnc7 := NB259_258.out
    have hnb8 := NB258_260.out
    have hnc8 := NB260_258.out
    obtain ⟨hcz9_0, hcz9_1, hfz9_0, hfz9_1⟩ := ch2_ BK258
    have hnb10 := NB260_259.out
    have hnc10 := NB259_260.out
    obtain ⟨hcz11_0, hcz11_1, hfz11_0, hfz11_1⟩ := ch2_ BK260
    go_wp2
    go_roundg k1
    case measure => have := HK1.out; omega
    case rel => exact ⟨(wrap64 (0 + 1)), (a0_0), (x261001_1), en_, H', ⟨by have := HK1.out; omega⟩, fl_ BK258 NB258_260, fl_ BK259 NB259_260, bp_ BK260, bw_ HB⟩
   rw [if_neg c6] at H
   have c6b0 : (x4_1 == 0) = false := beq_eq_false_iff_ne.mpr c6
   have c6b1 : (x4_1 != 0) = true := bne_iff_ne.mpr c6
   by_cases c12 : x4_1 = 1
   ·subst c12
    replace H := i1_ H
    have H' := Aside0.mk H
    clear H
    have hnb13 := NB258_259.out
    have hnc13 := NB259_258.out
    have hnb14 := NB258_260.out
    have hnc14 := NB260_258.out
    obtain ⟨hcz15_0, hcz15_1, hfz15_0, hfz15_1⟩ := ch2_ BK258
    have hnb16 := NB260_259.out
    have hnc16 := NB259_260.out
    obtain ⟨hcz17_0, hcz17_1, hfz17_0, hfz17_1⟩ := ch2_ BK260
    go_wp2
    go_roundg k1
    case measure => have := HK1.out; omega
    case rel => exact ⟨(wrap64 (1 + 1)), (x261000_1), (a0_1), en_, H', ⟨by have := HK1.out; omega⟩, fl_ BK258 NB258_260, fl_ BK259 NB259_260, bp_ BK260, bw_ HB⟩
   rw [if_neg c12] at H
   exact absurd H (by simp)
  simp only [Option.some.injEq, Prod.mk.injEq] at H
  obtain ⟨rfl, rfl⟩ := H
  have hnb18 := NB260_258.out
  have hnc18 := NB258_260.out
  have hnb19 := NB260_259.out
  have hnc19 := NB259_260.out
  obtain ⟨hcz20_0, hcz20_1, hfz20_0, hfz20_1⟩ := ch2_ BK260
  have hnb21 := NB259_258.out
  have hnc21 := NB258_259.out
  obtain ⟨hcz22_0, hcz22_1, hfz22_0, hfz22_1⟩ := ch2_ BK259
  go_wp2
  refine bodyPost_ret (results_cell_row rfl _ _ gb259 44 #[.int .i64 x261000_1, .int .i64 x261001_1] (0, 0) _ rfl (bp_ BK259).out Try.underlying44 rfl (by kernel_rfl)) rfl ?_
  exact ⟨es_, (bw_ HB).out⟩
def laws_toMatrix.l0 : Nat → Int → Int → Int → Int → Int → Int → Int → Int → Int → Option (Int × Int × Int × Int)
 | 0, _, _, _, _, _, _, _, _, _ => none
 | k + 1, x4, x262000, x262001, x262002, x262003, x264000, x264001, x264002, x264003 => if x4 < 2 then (if x4 = 0 then ((laws_toInt64A2.f k x262000 x262001).bind fun bt264 => (laws_toMatrix.l0 k (wrap64 (x4 + 1)) x262000 x262001 x262002 x262003 bt264.1 bt264.2 x264002 x264003)) else (if x4 = 1 then ((laws_toInt64A2.f k x262002 x262003).bind fun bt266 => (laws_toMatrix.l0 k (wrap64 (x4 + 1)) x262000 x262001 x262002 x262003 x264000 x264001 bt266.1 bt266.2)) else (none))) else (some (x264000, x264001, x264002, x264003))
def laws_toMatrix.f (k : Nat) (a0_0 a0_1 a0_2 a0_3 : Int) : Option (Int × Int × Int × Int) := laws_toMatrix.l0 k 0 a0_0 a0_1 a0_2 a0_3 0 0 0 0
theorem laws_toMatrix.calls (k : Nat) (a0_0 a0_1 a0_2 a0_3 r1 r2 r3 r4 : Int) (w : World) (h : laws_toMatrix.f k a0_0 a0_1 a0_2 a0_3 = some (r1, r2, r3, r4)) :
  Calls Try.prog 138 #[.agg #[.int .i64 a0_0, .int .i64 a0_1, .int .i64 a0_2, .int .i64 a0_3]] w fun e w' => e = .returned (.agg #[.int .i64 r1, .int .i64 r2, .int .i64 r3, .int .i64 r4]) ∧ Below w.heap.size w w' := by
 have hu45 := Try.underlying45
 have hu46 := Try.underlying46
 have hu44 := Try.underlying44
 have HB := Aside0.mk (Below.refl w.heap.size w)
 unfold laws_toMatrix.f at h
 have H := h
 clear h
 have H' := Aside0.mk H
 clear H
 go_enter Try.func138, Try.ntmps138
 go_wp2_with (first | ((refine gd_ 1 ?_); refine by_ 1 #[.int .i64 a0_0, .int .i64 a0_1, .int .i64 a0_2, .int .i64 a0_3] 45 HB ?_; intro gb261 hg w2 BK261 hb GW261 HB_; replace HB := HB_; clear hb hg) | ((refine gd_ 2 ?_); refine by_ 2 #[.int .i64 0, .int .i64 0, .int .i64 0, .int .i64 0] 46 HB ?_; intro gb262 hg w3 BK262 hb GW262 HB_; have NB261_262 := bm_ BK261 hg; have NB262_261 := bn_ BK261 hg; replace BK261 := bb_ BK261 hb; replace HB := HB_; clear hb hg) | ((refine gd_ 3 ?_); refine by_ 3 #[.int .i64 0, .int .i64 0, .int .i64 0, .int .i64 0] 46 HB ?_; intro gb263 hg w4 BK263 hb GW263 HB_; have NB261_263 := bm_ BK261 hg; have NB263_261 := bn_ BK261 hg; have NB262_263 := bm_ BK262 hg; have NB263_262 := bn_ BK262 hg; replace BK261 := bb_ BK261 hb; replace BK262 := bb_ BK262 hb; replace HB := HB_; clear hb hg))
 go_loopg [4] k (fun kq v4 w' => ∃ (x4_1 : Int) (x264000_1 : Int) (x264001_1 : Int) (x264002_1 : Int) (x264003_1 : Int), v4 = .int .i64 x4_1 ∧ Aside0 (laws_toMatrix.l0 kq x4_1 a0_0 a0_1 a0_2 a0_3 x264000_1 x264001_1 x264002_1 x264003_1 = some (r1, r2, r3, r4)) ∧ Aside0 (kq ≤ k) ∧ Aside0 (w'.heap[gb261]? = some (.cells #[.int .i64 a0_0, .int .i64 a0_1, .int .i64 a0_2, .int .i64 a0_3] 45 (0, 0))) ∧ Aside0 (w'.heap[gb262]? = some (.cells #[.int .i64 0, .int .i64 0, .int .i64 0, .int .i64 0] 46 (0, 0))) ∧ Aside0 (w'.heap[gb263]? = some (.cells #[.int .i64 x264000_1, .int .i64 x264001_1, .int .i64 x264002_1, .int .i64 x264003_1] 46 (0, 0))) ∧ Aside0 (Below w.heap.size w w'))
 case atStart => exact ⟨(0), (0), (0), (0), (0), en_, H', ⟨Nat.le_refl _⟩, bl_ BK261, bl_ BK262, bl_ BK263, bw_ HB⟩
 clear H'
 obtain ⟨x4_1, x264000_1, x264001_1, x264002_1, x264003_1, rfl, HA, HK1, BK261, BK262, BK263, HB⟩ := hrel
 cases gk with
 | zero => exact absurd HA.out (by simp [laws_toMatrix.l0])
 | succ k1 =>
  have H := HA.out
  clear HA
  simp only [laws_toMatrix.l0] at H
  replace H := il_ H
  rcases H with ⟨c5b0, H⟩ | ⟨c5b0, H⟩
  ·by_cases c6 : x4_1 = 0
   ·subst c6
    replace H := i1_ H
    replace H := oc_ H
    obtain ⟨⟨t264, t265⟩, A7, H⟩ := H
    have H' := Aside0.mk H
    clear H
    have hnb8 := NB261_262.out
    have hnc8 := NB262_261.out
    have hnb9 := NB261_263.out
    have hnc9 := NB263_261.out
    obtain ⟨hcz10_0, hcz10_1, hcz10_2, hcz10_3, hfz10_0, hfz10_1, hfz10_2, hfz10_3⟩ := ch4_ BK261
    go_wp2_with (first | ((refine gc_ 175 ?_); refine ge_ 13 Try.func175 #[.agg #[.int .i64 a0_0, .int .i64 a0_1]] ?_; (with_reducible refine (laws_toInt64A2.calls k1 a0_0 a0_1 t264 t265 _ A7.out).mono ?_); rintro e w11 ⟨rfl, hb⟩; refine ⟨_, rfl, ?_⟩; replace BK261 := bb_ BK261 hb; replace BK262 := bb_ BK262 hb; replace BK263 := bb_ BK263 hb; replace HB := bt_ HB hb; (try clear hb); have hnb12 := NB263_262.out; have hnc12 := NB262_263.out; obtain ⟨hcz13_0, hcz13_1, hcz13_2, hcz13_3, hfz13_0, hfz13_1, hfz13_2, hfz13_3⟩ := ch4_ BK263))
    go_roundg k1
    case measure => have := HK1.out; omega
    case rel => exact ⟨(wrap64 (0 + 1)), (t264), (t265), (x264002_1), (x264003_1), en_, H', ⟨by have := HK1.out; omega⟩, fl_ BK261 NB261_263, fl_ BK262 NB262_263, bp_ BK263, bw_ HB⟩
   rw [if_neg c6] at H
   have c6b0 : (x4_1 == 0) = false := beq_eq_false_iff_ne.mpr c6
   have c6b1 : (x4_1 != 0) = true := bne_iff_ne.mpr c6
   by_cases c14 : x4_1 = 1
   ·subst c14
    replace H := i1_ H
    replace H := oc_ H
    obtain ⟨⟨t266, t267⟩, A15, H⟩ := H
    have H' := Aside0.mk H
    clear H
    have hnb16 := NB261_262.out
    have hnc16 := NB262_261.out
    have hnb17 := NB261_263.out
    have hnc17 := NB263_261.out
    obtain ⟨hcz18_0, hcz18_1, hcz18_2, hcz18_3, hfz18_0, hfz18_1, hfz18_2, hfz18_3⟩ := ch4_ BK261
    go_wp2_with (first | ((refine gc_ 175 ?_); refine ge_ 13 Try.func175 #[.agg #[.int .i64 a0_2, .int .i64 a0_3]] ?_; (with_reducible refine (laws_toInt64A2.calls k1 a0_2 a0_3 t266 t267 _ A15.out).mono ?_); rintro e w19 ⟨rfl, hb⟩; refine ⟨_, rfl, ?_⟩; replace BK261 := bb_ BK261 hb; replace BK262 := bb_ BK262 hb; replace BK263 := bb_ BK263 hb; replace HB := bt_ HB hb; (try clear hb); have hnb20 := NB263_262.out; have hnc20 := NB262_263.out; obtain ⟨hcz21_0, hcz21_1, hcz21_2, hcz21_3, hfz21_0, hfz21_1, hfz21_2, hfz21_3⟩ := ch4_ BK263))
    go_roundg k1
    case measure => have := HK1.out; omega
    case rel => exact ⟨(wrap64 (1 + 1)), (x264000_1), (x264001_1), (t266), (t267), en_, H', ⟨by have := HK1.out; omega⟩, fl_ BK261 NB261_263, fl_ BK262 NB262_263, bp_ BK263, bw_ HB⟩
   rw [if_neg c14] at H
   exact absurd H (by simp)
  simp only [Option.some.injEq, Prod.mk.injEq] at H
  obtain ⟨rfl, rfl, rfl, rfl⟩ := H
  have hnb22 := NB263_261.out
  have hnc22 := NB261_263.out
  have hnb23 := NB263_262.out
  have hnc23 := NB262_263.out
  obtain ⟨hcz24_0, hcz24_1, hcz24_2, hcz24_3, hfz24_0, hfz24_1, hfz24_2, hfz24_3⟩ := ch4_ BK263
  have hnb25 := NB262_261.out
  have hnc25 := NB261_262.out
  obtain ⟨hcz26_0, hcz26_1, hcz26_2, hcz26_3, hfz26_0, hfz26_1, hfz26_2, hfz26_3⟩ := ch4_ BK262
  go_wp2
  refine bodyPost_ret (results_cell_row rfl _ _ gb262 46 #[.int .i64 x264000_1, .int .i64 x264001_1, .int .i64 x264002_1, .int .i64 x264003_1] (0, 0) _ rfl (bp_ BK262).out Try.underlying46 rfl (by kernel_rfl)) rfl ?_
  exact ⟨es_, (bw_ HB).out⟩
def laws_toMatrixS.l0 : Nat → List (S45) → List (S46) → Int → Option ((List (S46)))
 | 0, _, _, _ => none
 | k + 1, x0, x3, x4 => if x4 < (x0.length : Int) then (if 0 ≤ x4 then ((laws_toMatrix.f k ((rd_T45 x0 x4).f0.f0) ((rd_T45 x0 x4).f0.f1) ((rd_T45 x0 x4).f1.f0) ((rd_T45 x0 x4).f1.f1)).bind fun bt272 => (if x4 < (x3.length : Int) then (laws_toMatrixS.l0 k x0 (x3.set (x4 : Int).toNat (⟨(⟨bt272.1, bt272.2.1⟩ : S44), (⟨bt272.2.2.1, bt272.2.2.2⟩ : S44)⟩ : S46)) (wrap64 (x4 + 1))) else (none))) else (none)) else (some x3)
def laws_toMatrixS.f (k : Nat) (l0 : List (S45)) : Option ((List (S46))) := if 0 ≤ (l0.length : Int) then (if ((l0.length : Int) : Int).toNat ≤ 8796093022208 then (laws_toMatrixS.l0 k l0 (List.replicate ((l0.length : Int) : Int).toNat z46) 0) else (none)) else (none)
theorem laws_toMatrixS.calls (k : Nat) (A0 : Option Addr) (c0 : Nat) (l0 : List (S45)) (r : List (S46)) (w : World) (hr0 : Kd.C k45 w A0 l0.length l0) (hc0 : l0.length ≤ c0) (h : laws_toMatrixS.f k l0 = some r) :
  Calls Try.prog 61 #[.slice A0 l0.length c0] w fun e w' => ∃ v0_ : Value, e = .returned (v0_) ∧ Kd.R k46 46 w' w.heap.size (fun _ => True) v0_ r ∧ Below w.heap.size w w' := by
 have hu45 := Try.underlying45
 have hu46 := Try.underlying46
 have HR0 := Aside0.mk hr0
 have HC0 := Aside0.mk hc0
 clear hr0 hc0
 have HB := Aside0.mk (Below.refl w.heap.size w)
 unfold laws_toMatrixS.f at h
 have H := h
 clear h
 by_cases c2 : 0 ≤ (l0.length : Int)
 ·rw [if_pos c2] at H
  have c2b0 := eq_true c2
  have c2b1 : decide (0 ≤ (l0.length : Int)) = true := decide_eq_true c2
  clear c2
  by_cases c3 : ((l0.length : Int) : Int).toNat ≤ 8796093022208
  ·rw [if_pos c3] at H
   have c3b0 := eq_true c3
   have c3b1 : decide (((l0.length : Int) : Int).toNat ≤ 8796093022208) = true := decide_eq_true c3
   clear c3
   obtain ⟨y268, hy268⟩ : ∃ y_ : List (S46), y_ = (List.replicate ((l0.length : Int) : Int).toNat z46) := ⟨_, rfl⟩
   replace H : (laws_toMatrixS.l0 k l0 y268 0) = some r := by first | (rw [hy268]; with_reducible exact H) | (have H2_ := (Option.bind_some _ _).symm.trans H; rw [hy268]; with_reducible exact H2_) | (have H2_ := (Option.bind_some _ _).symm.trans H; with_reducible exact H2_) | with_reducible exact H | (rw [hy268]; exact H) | exact H
   have Ny268 := Aside0.mk hy268
   clear hy268
   have H' := Aside0.mk H
   clear H
   go_enter Try.func61, Try.ntmps61
   go_wp2_with (first | ((refine gd_ 7 ?_); refine Kd.R_make k46 _ 46 rfl (N := 7) rfl 77 _ _ rfl (l0.length : Int) rfl rfl Try.underlying77 (.agg #[(.int .i64 0), (.int .i64 0), (.int .i64 0), (.int .i64 0)]) 32 info46 rfl (by decide) (by omega) z46 (ok := fun _ => True) (okp := fun _ => True) (k46_mkM _ _ _ z46 ) (fun _ hk => hk) trivial od_ (Nat.le_trans (Nat.mul_le_mul_right _ (od_ : (l0.length : Int).toNat ≤ 8796093022208)) (by omega)) (Below.refl _ _) (Nat.le_refl _) ?_; intro v269 w4 ho5 hb hg_ hnew_; clear hg_ hnew_; (first | rw [← Ny268.out] at ho5 | (simp only [Int.reduceToNat] at ho5; rw [← Ny268.out] at ho5)); have HO270 := Aside0.mk (Kd.R_lower ho5 (below_size (bw_ HB).out)); replace HB := bt_ HB hb; clear hb ho5))
   go_loopg [4] k (fun kq v4 w' => ∃ (x3_1 : List (S46)) (x4_1 : Int), v4 = .int .i64 x4_1 ∧ Aside0 (laws_toMatrixS.l0 kq l0 x3_1 x4_1 = some r) ∧ Aside0 (kq ≤ k) ∧ Aside0 (Kd.R k46 46 w' w.heap.size (fun _ => True) v269 x3_1) ∧ Aside0 (Below w.heap.size w w'))
   case atStart => exact ⟨(y268), (0), en_, H', ⟨Nat.le_refl _⟩, ⟨by (with_reducible repeat (first | apply Kd.R_alloc | apply Kd.R_drewN | apply Kd.R_drew)); exact HO270.out⟩, bw_ HB⟩
   clear H'
   try clear c2
   try clear c2b0
   try clear c2b1
   try clear c3
   try clear c3b0
   try clear c3b1
   obtain ⟨x3_1, x4_1, rfl, HA, HK1, HO_3, HB⟩ := hrel
   cases gk with
   | zero => exact absurd HA.out (by simp [laws_toMatrixS.l0])
   | succ k1 =>
    have H := HA.out
    clear HA
    simp only [laws_toMatrixS.l0] at H
    replace H := il_ H
    rcases H with ⟨c6b0, H⟩ | ⟨c6b0, H⟩
    ·replace H := imn_ H
     obtain ⟨c7b0, H⟩ := H
     replace H := oc_ H
     obtain ⟨⟨t272, t273, t274, t275⟩, A8, H⟩ := H
     replace H := iln_ H
     obtain ⟨c9b0, H⟩ := H
     obtain ⟨y276, hy276⟩ : ∃ y_ : List (S46), y_ = (x3_1.set (x4_1 : Int).toNat (⟨(⟨t272, t273⟩ : S44), (⟨t274, t275⟩ : S44)⟩ : S46)) := ⟨_, rfl⟩
     replace H : (laws_toMatrixS.l0 k1 l0 y276 (wrap64 (x4_1 + 1))) = some r := by first | (rw [hy276]; with_reducible exact H) | (have H2_ := (Option.bind_some _ _).symm.trans H; rw [hy276]; with_reducible exact H2_) | (have H2_ := (Option.bind_some _ _).symm.trans H; with_reducible exact H2_) | with_reducible exact H | (rw [hy276]; exact H) | exact H
     have Ny276 := Aside0.mk hy276
     clear hy276
     have H' := Aside0.mk H
     clear H
     have p271 : 0 ≤ (x4_1 : Int) := od_
     have q271 : x4_1 < (l0.length : Int) := od_
     obtain ⟨ad271, e271, hx271_0, hx271_1, hx271_2, hx271_3⟩ := at_T45 HR0.out x4_1 p271 q271
     cases e271
     replace hx271_0 := clTr HB.out hx271_0
     replace hx271_1 := clTr HB.out hx271_1
     replace hx271_2 := clTr HB.out hx271_2
     replace hx271_3 := clTr HB.out hx271_3
     replace p271 := eq_true p271
     replace q271 := eq_true q271
     go_wp2_with (first | ((refine gc_ 138 ?_); refine ge_ 20 Try.func138 #[.agg #[.int .i64 ((rd_T45 l0 x4_1).f0.f0), .int .i64 ((rd_T45 l0 x4_1).f0.f1), .int .i64 ((rd_T45 l0 x4_1).f1.f0), .int .i64 ((rd_T45 l0 x4_1).f1.f1)]] ?_; (with_reducible refine (laws_toMatrix.calls k1 ((rd_T45 l0 x4_1).f0.f0) ((rd_T45 l0 x4_1).f0.f1) ((rd_T45 l0 x4_1).f1.f0) ((rd_T45 l0 x4_1).f1.f1) t272 t273 t274 t275 _ A8.out).mono ?_); rintro e w11 ⟨rfl, hb⟩; refine ⟨_, rfl, ?_⟩; replace HO_3 := rb_ HO_3 hb; replace HB := bt_ HB hb; (try clear hb); have p10 : 0 ≤ (x4_1 : Int) := od_; have q10 : (x4_1 : Int) < ((x3_1.length : Int) : Int) := od_; obtain ⟨go10, co10, eo10, gb10, gl10, cl10, HG10⟩ := Kd.R_form HO_3.out (by omega); (first | cases eo10 | (injection eo10 with ea_ en_ ec_; (first | subst ea_ | (injection ea_ with ea_; subst ea_)); subst ec_; clear en_)); have GB10 := Aside0.mk gb10; have GG10 := Aside0.mk HG10; clear gb10 gl10 HG10; obtain ⟨ce10, hcl10, hM10, hcc10, hfr10⟩ := Kd.R_elem HO_3.out z46 (x4_1 : Int) p10 q10; obtain rfl := k46_openM hM10; have hx10_0 : w11.cell? ⟨go10, (x4_1 : Int).toNat * 4, none⟩ = some (.int .i64 ((rd_T46 x3_1 x4_1).f0.f0)) := hcc10 0 _ rfl; have hx10_1 : w11.cell? ⟨go10, (x4_1 : Int).toNat * 4 + 1, none⟩ = some (.int .i64 ((rd_T46 x3_1 x4_1).f0.f1)) := hcc10 1 _ rfl; have hx10_2 : w11.cell? ⟨go10, (x4_1 : Int).toNat * 4 + 2, none⟩ = some (.int .i64 ((rd_T46 x3_1 x4_1).f1.f0)) := hcc10 2 _ rfl; have hx10_3 : w11.cell? ⟨go10, (x4_1 : Int).toNat * 4 + 3, none⟩ = some (.int .i64 ((rd_T46 x3_1 x4_1).f1.f1)) := hcc10 3 _ rfl; have hf10_0 : w11.frozen? ⟨go10, (x4_1 : Int).toNat * 4, none⟩ = false := hfr10 0; have hf10_1 : w11.frozen? ⟨go10, (x4_1 : Int).toNat * 4 + 1, none⟩ = false := hfr10 1; have hf10_2 : w11.frozen? ⟨go10, (x4_1 : Int).toNat * 4 + 2, none⟩ = false := hfr10 2; have hf10_3 : w11.frozen? ⟨go10, (x4_1 : Int).toNat * 4 + 3, none⟩ = false := hfr10 3; clear hcl10 hcc10 hfr10 hM10; replace p10 := eq_true p10; replace q10 := eq_true q10; have HX12 := Aside0.mk (show Kd.R k46 46 w11 w.heap.size (fun _ => True) (.slice (some ⟨go10, 0, none⟩) x3_1.length co10) x3_1 from (ra_ HO_3.out)); obtain ⟨ce12, hcl12, hM12, hcc12, hfr12⟩ := Kd.R_elem HX12.out z46 (x4_1 : Int) od_ (by have h_ : (x4_1 : Int) < ((x3_1.length : Int) : Int) := od_; first | exact h_ | (have e_ := (Kd.R_reads' HO_3.out).1; omega) | simpa using h_); obtain rfl := k46_openM hM12; have HP12 := Kd.R_seg HX12.out (x4_1 : Int) od_ (by have h_ : (x4_1 : Int) < ((x3_1.length : Int) : Int) := od_; first | exact h_ | (have e_ := (Kd.R_reads' HO_3.out).1; omega) | simpa using h_) (seg := [.int .i64 t272, .int .i64 t273, .int .i64 t274, .int .i64 t275]) (j := 0) hcl12 hcc12 (show 4 ≤ 4 from by decide) (x' := (⟨(⟨t272, t273⟩ : S44), (⟨t274, t275⟩ : S44)⟩ : S46)) (k46_mkM _ _ _ (⟨(⟨t272, t273⟩ : S44), (⟨t274, t275⟩ : S44)⟩ : S46) ) (fun _ hk => hk); have hx12_0 := hcc12 0 _ rfl; (try simp only [show (k46).sz = 4 from rfl, Nat.mul_one, Nat.add_zero] at hx12_0); have hf12_0 := hfr12 0; (try simp only [show (k46).sz = 4 from rfl, Nat.mul_one, Nat.add_zero] at hf12_0); have hx12_1 := hcc12 1 _ rfl; (try simp only [show (k46).sz = 4 from rfl, Nat.mul_one, Nat.add_zero] at hx12_1); have hf12_1 := hfr12 1; (try simp only [show (k46).sz = 4 from rfl, Nat.mul_one, Nat.add_zero] at hf12_1); have hx12_2 := hcc12 2 _ rfl; (try simp only [show (k46).sz = 4 from rfl, Nat.mul_one, Nat.add_zero] at hx12_2); have hf12_2 := hfr12 2; (try simp only [show (k46).sz = 4 from rfl, Nat.mul_one, Nat.add_zero] at hf12_2); have hx12_3 := hcc12 3 _ rfl; (try simp only [show (k46).sz = 4 from rfl, Nat.mul_one, Nat.add_zero] at hx12_3); have hf12_3 := hfr12 3; (try simp only [show (k46).sz = 4 from rfl, Nat.mul_one, Nat.add_zero] at hf12_3); clear hcl12 hcc12 hfr12 hM12) | ((with_reducible refine gate_store (t := 46) (p := 21) rfl ?_); refine store_event (t := 46) (p := 21) (v := ?vo_w13) (w1 := ((((w11.setCell ⟨go10, (x4_1 : Int).toNat * 4, none⟩ (.int .i64 t272)).setCell ⟨go10, (x4_1 : Int).toNat * 4 + 1, none⟩ (.int .i64 t273)).setCell ⟨go10, (x4_1 : Int).toNat * 4 + 2, none⟩ (.int .i64 t274)).setCell ⟨go10, (x4_1 : Int).toNat * 4 + 3, none⟩ (.int .i64 t275))) ?hg ?ho ?hn ?hr ?_; (case ho => rfl); (case hg => rfl); (case hn => rfl); (case hr => first | (go_simp; done) | (go_simp; rfl)); intro w13 hw; have hg : w11.grownBy w13 (some go10) := (by rw [hw]; exact HP12.2); have hp_ : Kd.R k46 46 w13 w.heap.size (fun _ => True) (.slice (some ⟨go10, 0, none⟩) x3_1.length co10) y276 := (by rw [hw, Ny276.out]; exact HP12.1); clear HP12; replace HO_3 := Aside0.mk (hp_); replace HB := Aside0.mk ((by rw [hw]; exact below_set (below_set (below_set (below_set (HB.out) GB10.out) GB10.out) GB10.out) GB10.out : Below w.heap.size w w13)); clear hg hw hp_))
     go_roundg k1
     case measure => have := HK1.out; omega
     case rel => exact ⟨(y276), (wrap64 (x4_1 + 1)), en_, H', ⟨by have := HK1.out; omega⟩, ⟨by (with_reducible repeat (first | apply Kd.R_alloc | apply Kd.R_drewN | apply Kd.R_drew)); exact HO_3.out⟩, bw_ HB⟩
    obtain rfl := si_ H
    go_wp2
    go_ret
    exact ⟨_, es_, by (with_reducible repeat (first | apply Kd.R_alloc | apply Kd.R_drewN | apply Kd.R_drew)); exact HO_3.out, (bw_ HB).out⟩
  rw [if_neg c3] at H
  exact absurd H (by simp)
 rw [if_neg c2] at H
 exact absurd H (by simp)
def laws_toBall.f (a0_0 a0_1 a0_2 : Int) : Option (Int × Int × Int) := some (a0_0, a0_1, a0_2)
theorem laws_toBall.calls (a0_0 a0_1 a0_2 r1 r2 r3 : Int) (w : World) (h : laws_toBall.f a0_0 a0_1 a0_2 = some (r1, r2, r3)) :
  Calls Try.prog 176 #[.agg #[.int .i64 a0_0, .int .i64 a0_1, .int .i64 a0_2]] w fun e w' => e = .returned (.agg #[.int .i64 r1, .int .i64 r2, .int .i64 r3]) ∧ Below w.heap.size w w' := by
 have hu156 := Try.underlying156
 have hu25 := Try.underlying25
 have HB := Aside0.mk (Below.refl w.heap.size w)
 unfold laws_toBall.f at h
 have H := h
 clear h
 simp only [Option.some.injEq, Prod.mk.injEq] at H
 obtain ⟨rfl, rfl, rfl⟩ := H
 go_enter Try.func176, Try.ntmps176
 go_wp2_with (first | ((refine gd_ 1 ?_); refine by_ 1 #[.int .i64 a0_0, .int .i64 a0_1, .int .i64 a0_2] 156 HB ?_; intro gb277 hg w2 BK277 hb GW277 HB_; replace HB := HB_; clear hb hg) | ((refine gd_ 2 ?_); refine by_ 2 #[.int .i64 0, .int .i64 0, .int .i64 0] 25 HB ?_; intro gb278 hg w3 BK278 hb GW278 HB_; have NB277_278 := bm_ BK277 hg; have NB278_277 := bn_ BK277 hg; replace BK277 := bb_ BK277 hb; replace HB := HB_; clear hb hg) | ((refine gd_ 3 ?_); refine by_ 3 #[.int .i64 0, .int .i64 0, .int .i64 0] 25 HB ?_; intro gb279 hg w4 BK279 hb GW279 HB_; have NB277_279 := bm_ BK277 hg; have NB279_277 := bn_ BK277 hg; have NB278_279 := bm_ BK278 hg; have NB279_278 := bn_ BK278 hg; replace BK277 := bb_ BK277 hb; replace BK278 := bb_ BK278 hb; replace HB := HB_; clear hb hg; have hnb5 := NB277_278.out; have hnc5 := NB278_277.out; have hnb6 := NB277_279.out; have hnc6 := NB279_277.out; obtain ⟨hcz7_0, hcz7_1, hcz7_2, hfz7_0, hfz7_1, hfz7_2⟩ := ch3_ BK277; have hnb8 := NB279_278.out; have hnc8 := NB278_279.out; obtain ⟨hcz9_0, hcz9_1, hcz9_2, hfz9_0, hfz9_1, hfz9_2⟩ := ch3_ BK279; obtain ⟨hcz10_0, hcz10_1, hcz10_2, hfz10_0, hfz10_1, hfz10_2⟩ := ch3_ BK278))
 refine bodyPost_ret (results_cell_row rfl _ _ gb278 25 #[.int .i64 a0_0, .int .i64 a0_1, .int .i64 a0_2] (0, 0) _ rfl (bp_ BK278).out Try.underlying25 rfl (by kernel_rfl)) rfl ?_
 exact ⟨es_, (bw_ HB).out⟩
def laws_toSide.f (a0_0 a0_1 a0_2 : Int) (a0_3 : Bool) : Option (Int × Int × Int × Bool) := (laws_toBall.f a0_0 a0_1 a0_2).bind fun bt283 => (some (bt283.1, bt283.2.1, bt283.2.2, a0_3))
theorem laws_toSide.calls (a0_0 a0_1 a0_2 : Int) (a0_3 : Bool) (r1 r2 r3 : Int) (r4 : Bool) (w : World) (h : laws_toSide.f a0_0 a0_1 a0_2 a0_3 = some (r1, r2, r3, r4)) :
  Calls Try.prog 139 #[.agg #[.int .i64 a0_0, .int .i64 a0_1, .int .i64 a0_2, .bool a0_3]] w fun e w' => e = .returned (.agg #[.int .i64 r1, .int .i64 r2, .int .i64 r3, .bool r4]) ∧ Below w.heap.size w w' := by
 have hu158 := Try.underlying158
 have hu150 := Try.underlying150
 have hu156 := Try.underlying156
 have hu25 := Try.underlying25
 have HB := Aside0.mk (Below.refl w.heap.size w)
 unfold laws_toSide.f at h
 have H := h
 clear h
 replace H := oc_ H
 obtain ⟨⟨t283, t284, t285⟩, A2, H⟩ := H
 simp only [Option.some.injEq, Prod.mk.injEq] at H
 obtain ⟨rfl, rfl, rfl, rfl⟩ := H
 go_enter Try.func139, Try.ntmps139
 go_wp2_with (first | ((refine gd_ 1 ?_); refine by_ 1 #[.int .i64 a0_0, .int .i64 a0_1, .int .i64 a0_2, .bool a0_3] 158 HB ?_; intro gb280 hg w3 BK280 hb GW280 HB_; replace HB := HB_; clear hb hg) | ((refine gd_ 2 ?_); refine by_ 2 #[.int .i64 0, .int .i64 0, .int .i64 0, .bool false] 150 HB ?_; intro gb281 hg w4 BK281 hb GW281 HB_; have NB280_281 := bm_ BK280 hg; have NB281_280 := bn_ BK280 hg; replace BK280 := bb_ BK280 hb; replace HB := HB_; clear hb hg) | ((refine gd_ 3 ?_); refine by_ 3 #[.int .i64 0, .int .i64 0, .int .i64 0, .bool false] 150 HB ?_; intro gb282 hg w5 BK282 hb GW282 HB_; have NB280_282 := bm_ BK280 hg; have NB282_280 := bn_ BK280 hg; have NB281_282 := bm_ BK281 hg; have NB282_281 := bn_ BK281 hg; replace BK280 := bb_ BK280 hb; replace BK281 := bb_ BK281 hb; replace HB := HB_; clear hb hg; have hnb6 := NB280_281.out; have hnc6 := NB281_280.out; have hnb7 := NB280_282.out; have hnc7 := NB282_280.out; obtain ⟨hcz8_0, hcz8_1, hcz8_2, hcz8_3, hfz8_0, hfz8_1, hfz8_2, hfz8_3⟩ := ch4_ BK280) | ((refine gc_ 176 ?_); refine ge_ 6 Try.func176 #[.agg #[.int .i64 a0_0, .int .i64 a0_1, .int .i64 a0_2]] ?_; (with_reducible refine (laws_toBall.calls a0_0 a0_1 a0_2 t283 t284 t285 _ A2.out).mono ?_); rintro e w9 ⟨rfl, hb⟩; refine ⟨_, rfl, ?_⟩; replace BK280 := bb_ BK280 hb; replace BK281 := bb_ BK281 hb; replace BK282 := bb_ BK282 hb; replace HB := bt_ HB hb; (try clear hb); have hnb10 := NB282_281.out; have hnc10 := NB281_282.out; obtain ⟨hcz11_0, hcz11_1, hcz11_2, hcz11_3, hfz11_0, hfz11_1, hfz11_2, hfz11_3⟩ := ch4_ BK282; obtain ⟨hcz12_0, hcz12_1, hcz12_2, hcz12_3, hfz12_0, hfz12_1, hfz12_2, hfz12_3⟩ := ch4_ BK280; obtain ⟨hcz13_0, hcz13_1, hcz13_2, hcz13_3, hfz13_0, hfz13_1, hfz13_2, hfz13_3⟩ := ch4_ BK281))
 refine bodyPost_ret (results_cell_row rfl _ _ gb281 150 #[.int .i64 t283, .int .i64 t284, .int .i64 t285, .bool a0_3] (0, 0) _ rfl (bp_ BK281).out Try.underlying150 rfl (by kernel_rfl)) rfl ?_
 exact ⟨es_, (bw_ HB).out⟩
end Go.Proofs.Ytgoeelhiffbjlaa.QB
