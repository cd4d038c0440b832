import Derived.Test.YtgoeelhiffbjlaaQRx8
import Derived.Test.YtgoeelhiffbjlaaQRx30
import Derived.Test.YtgoeelhiffbjlaaQRx37
import Derived.Test.YtgoeelhiffbjlaaQRx33
namespace Go.Proofs.Ytgoeelhiffbjlaa.QR
set_option maxHeartbeats 8000000
set_option maxRecDepth 100000
open Go.RowKit Go.Proofs.YtgoeelhiffbjlaaW.PrintWords Go.Proofs.YtgoeelhiffbjlaaW.PrintLast Go.Proofs.YtgoeelhiffbjlaaW.PrintMore
attribute [local go_sem] isSome_setCell max2_int min2_int max_two min_two max_three min_three max_four min_four
set_option linter.unusedVariables false
set_option linter.unusedSimpArgs false

/-! ### impl_NormalSteps: function 14 -/
def impl_NormalSteps.l0 : Nat → ByteArray → List Int → Int → Int → Option (ByteArray × Int)
 | 0, _, _, _, _ => none
 | k + 1, x1, x7, x19, x20 => if x20 < x19 then (if 0 ≤ x20 then (if x20 < (x1.size : Int) then (if (bt x1 x20) = 117 then (if (x7.length : Int) > 0 then (if 0 ≤ (wrap64 ((x7.length : Int) - 1)) then (if (wrap64 ((x7.length : Int) - 1)) < (x7.length : Int) then (if (rd x7 (wrap64 ((x7.length : Int) - 1))) = 117 then (if x7.length < 140737488355328 then (impl_NormalSteps.l0 k x1 (x7 ++ [bt x1 x20]) x19 (wrap64 (x20 + 1))) else (none)) else (if (wrap64 ((x7.length : Int) - 1)) ≤ (x7.length : Int) then (impl_NormalSteps.l0 k x1 (x7.take ((wrap64 ((x7.length : Int) - 1)) : Int).toNat) x19 (wrap64 (x20 + 1))) else (none))) else (none)) else (none)) else (if x7.length < 140737488355328 then (impl_NormalSteps.l0 k x1 (x7 ++ [bt x1 x20]) x19 (wrap64 (x20 + 1))) else (none))) else (if x7.length < 140737488355328 then (impl_NormalSteps.l0 k x1 (x7 ++ [bt x1 x20]) x19 (wrap64 (x20 + 1))) else (none))) else (none)) else (none)) else (some (strOfNums x7, 0))
def impl_NormalSteps.f (k : Nat) (a0 : Int) (a1 : ByteArray) : Option (ByteArray × Int) := (impl_stepsCode.f k a0 0 0 0 a1).bind fun t429 => (if t429 = 0 then (impl_NormalSteps.l0 k a1 (([] : List Int)) (a1.size : Int) 0) else (some ((⟨#[]⟩ : ByteArray), t429)))
theorem impl_NormalSteps.calls (k : Nat) (a0 : Int) (a1 : ByteArray) (r1 : ByteArray) (r2 : Int) (w : World) (h : impl_NormalSteps.f k a0 a1 = some (r1, r2)) :
  Calls Try.prog 14 #[.int .i64 a0, .string a1] w fun e w' => e = .returned (.tuple #[.string r1, .int .i64 r2]) ∧ Below w.heap.size w w' := by
 have hu25 := Try.underlying25
 have HB := Aside0.mk (Below.refl w.heap.size w)
 have H : ((impl_stepsCode.f k a0 0 0 0 a1).bind fun t429 => (if t429 = 0 then (impl_NormalSteps.l0 k a1 (([] : List Int)) (a1.size : Int) 0) else (some ((⟨#[]⟩ : ByteArray), t429)))) = some (r1, r2) := h
 clear h
 replace H := ob_ H
 obtain ⟨t429, A30, H⟩ := H
 have A3 := Aside0.mk A30
 clear A30
 by_cases c4 : t429 = 0
 ·rw [if_pos c4] at H
  have c4b0 : (t429 == 0) = true := beq_iff_eq.mpr c4
  have c4b1 : (t429 != 0) = false := bne_eq_false_iff_eq.mpr c4
  clear c4
  obtain ⟨y430, hy430⟩ : ∃ y_ : List Int, y_ = (([] : List Int)) := ⟨_, rfl⟩
  replace H : (impl_NormalSteps.l0 k a1 y430 (a1.size : Int) 0) = some (r1, r2) := by first | (rw [hy430]; with_reducible exact H) | (have H2_ := (Option.bind_some _ _).symm.trans H; rw [hy430]; with_reducible exact H2_) | (have H2_ := (Option.bind_some _ _).symm.trans H; with_reducible exact H2_) | with_reducible exact H | (rw [hy430]; exact H) | exact H
  have Ny430 := Aside0.mk hy430
  clear hy430
  have H' := Aside0.mk H
  clear H
  go_enter Try.func14, Try.ntmps14
  go_wp2_with (first | ((refine gc_ 76 ?_); refine ge_ 13 Try.func76 #[.int .i64 a0, .agg #[.int .i64 0, .int .i64 0, .int .i64 0], .string a1] ?_; (with_reducible refine (impl_stepsCode.calls k a0 0 0 0 a1 t429 _ A3.out).mono ?_); rintro e w5 ⟨rfl, hb⟩; refine ⟨_, rfl, ?_⟩; replace HB := bt_ HB hb; (try clear hb)) | ((refine gd_ 17 ?_); refine Kd.R_lit (Kd.int .u8) _ 5 ?hg (N := 17) ?hd (xs := ([] : List Int)) (inner := []) (ok := fun _ => True) (okp := fun _ => True) ?hr ?hp (fun _ hk => hk) trivial (Below.refl _ _) (Nat.le_refl _) (by simp) ?_; (case hd => rfl); (case hg => rfl); (case hr => first | (go_simp; done) | (go_simp; rfl)); (case hp => exact (Reps.none _ _)); intro v431 w6 ho7 hb hg_ hnew_; clear hg_ hnew_; (first | rw [← Ny430.out] at ho7 | (simp only [Int.reduceToNat] at ho7; rw [← Ny430.out] at ho7)); have HO432 := Aside0.mk (Kd.R_lower ho7 (below_size (bw_ HB).out)); replace HB := bt_ HB hb; clear hb ho7))
  go_loopg [7, 20] k (fun kq v7 v20 w' => ∃ (x7_1 : List Int) (x20_1 : Int), v20 = .int .i64 x20_1 ∧ Aside0 (impl_NormalSteps.l0 kq a1 x7_1 (a1.size : Int) x20_1 = some (r1, r2)) ∧ Aside0 (kq ≤ k) ∧ Aside0 (Kd.R (Kd.int .u8) 5 w' w.heap.size (fun _ => True) v7 x7_1) ∧ Aside0 (Below w.heap.size w w'))
  case atStart => exact ⟨(y430), (0), en_, H', ⟨Nat.le_refl _⟩, ⟨by (with_reducible repeat (first | apply Kd.R_alloc | apply Kd.R_drewN | apply Kd.R_drew)); exact HO432.out⟩, bw_ HB⟩
  case round =>
   clear H'
   try clear c1
   try clear p2
   try clear c4
   try clear c4b0
   try clear c4b1
   try clear c7
   obtain ⟨x7_1, x20_1, rfl, HA, HK1, HO_7, HB⟩ := hrel
   cases gk with
   | zero => exact absurd HA.out (by simp [impl_NormalSteps.l0])
   | succ k1 =>
    have H := HA.out
    clear HA
    simp only [impl_NormalSteps.l0] at H
    by_cases c8 : x20_1 < (a1.size : Int)
    ·rw [if_pos c8] at H
     have c8b0 : decide (x20_1 < (a1.size : Int)) = true := decide_eq_true c8
     clear c8
     by_cases c9 : 0 ≤ x20_1
     ·rw [if_pos c9] at H
      have c9b0 : decide (0 ≤ x20_1) = true := decide_eq_true c9
      clear c9
      by_cases c10 : x20_1 < (a1.size : Int)
      ·rw [if_pos c10] at H
       have c10b0 : decide (x20_1 < (a1.size : Int)) = true := decide_eq_true c10
       clear c10
       by_cases c12 : (bt a1 x20_1) = 117
       ·rw [if_pos c12] at H
        have c12b0 : ((bt a1 x20_1) == 117) = true := beq_iff_eq.mpr c12
        have c12b1 : ((bt a1 x20_1) != 117) = false := bne_eq_false_iff_eq.mpr c12
        clear c12
        by_cases c13 : (x7_1.length : Int) > 0
        ·rw [if_pos c13] at H
         have c13b0 : decide (0 < (x7_1.length : Int)) = true := decide_eq_true c13
         have c13b1 : decide (0 < x7_1.length) = true := decide_eq_true (by omega)
         clear c13
         obtain ⟨ji14, hji14⟩ : ∃ j_ : Int, (wrap64 ((x7_1.length : Int) - 1)) = j_ := ⟨_, rfl⟩
         replace H : (if 0 ≤ (ji14) then (if (ji14) < (x7_1.length : Int) then (if (rd x7_1 (ji14)) = 117 then (if x7_1.length < 140737488355328 then (impl_NormalSteps.l0 k1 a1 (x7_1 ++ [bt a1 x20_1]) (a1.size : Int) (wrap64 (x20_1 + 1))) else (none)) else (if (ji14) ≤ (x7_1.length : Int) then (impl_NormalSteps.l0 k1 a1 (x7_1.take ((ji14) : Int).toNat) (a1.size : Int) (wrap64 (x20_1 + 1))) else (none))) else (none)) else (none)) = some (r1, r2) := by first | (rw [hji14] at H; exact H) | (simp only [hji14] at H ⊢; exact H)
         have hji14w : (IntKind.i64.wrap ((x7_1.length : Int) - 1)) = ji14 := (i64_w _).trans hji14
         by_cases c15 : 0 ≤ (ji14)
         ·rw [if_pos c15] at H
          have c15b0 : decide (0 ≤ (ji14)) = true := decide_eq_true c15
          clear c15
          by_cases c16 : (ji14) < (x7_1.length : Int)
          ·rw [if_pos c16] at H
           have c16b0 : decide ((ji14) < (x7_1.length : Int)) = true := decide_eq_true c16
           clear c16
           by_cases c17 : (rd x7_1 (ji14)) = 117
           ·rw [if_pos c17] at H
            have c17b0 : ((rd x7_1 (ji14)) == 117) = true := beq_iff_eq.mpr c17
            have c17b1 : ((rd x7_1 (ji14)) != 117) = false := bne_eq_false_iff_eq.mpr c17
            clear c17
            by_cases c19 : x7_1.length < 140737488355328
            ·rw [if_pos c19] at H
             have LMc19 := Aside0.mk c19
             clear c19
             obtain ⟨y434, hy434⟩ : ∃ y_ : List Int, y_ = (x7_1 ++ [bt a1 x20_1]) := ⟨_, rfl⟩
             replace H : (impl_NormalSteps.l0 k1 a1 y434 (a1.size : Int) (wrap64 (x20_1 + 1))) = some (r1, r2) := by first | (rw [hy434]; with_reducible exact H) | (have H2_ := (Option.bind_some _ _).symm.trans H; rw [hy434]; with_reducible exact H2_) | (have H2_ := (Option.bind_some _ _).symm.trans H; with_reducible exact H2_) | with_reducible exact H | (rw [hy434]; exact H) | exact H
             have Ny434 := Aside0.mk hy434
             clear hy434
             have H' := Aside0.mk H
             clear H
             obtain ⟨Ao20, co20, eo20⟩ := Kd.R_slice HO_7.out
             subst eo20
             have p11 : 0 ≤ (x20_1 : Int) := od_
             have q11 : x20_1 < (a1.size : Int) := od_
             have hx11 := bt_at a1 x20_1
             replace p11 := eq_true p11
             replace q11 := eq_true q11
             have p433 : 0 ≤ ((ji14) : Int) := od_
             have q433 : (ji14) < (x7_1.length : Int) := od_
             obtain ⟨ad433, e433, hx433_0⟩ := Kd.at_int (Kd.R_reads' HO_7.out).2.2 (ji14) p433 q433
             cases e433
             replace p433 := eq_true p433
             replace q433 := eq_true q433
             have p18 : 0 ≤ (x20_1 : Int) := od_
             have q18 : x20_1 < (a1.size : Int) := od_
             have hx18 := bt_at a1 x20_1
             replace p18 := eq_true p18
             replace q18 := eq_true q18
             go_wp2_with (first | ((with_reducible refine gate_builtin (b := .append) (xs := #[.tmp 45, .tmp 49]) rfl ?_); at_builtin; refine Kd.R_append (Kd.int .u8) (w0 := w) w.heap.size rfl (.tmp 45) (.tmp 49) 22 5 (.int .u8 0) 1 rfl Try.underlying22 info5 rfl (by decide) (by omega) (.slice (some ad433) x7_1.length co20) x7_1 (bt a1 x20_1) [.int .u8 (bt a1 x20_1)] (fun _ => True) (fun _ => False) rfl rfl ?aP (fun _ hk => hk.elim) ?aF ?aO ?aB ?aS ?aL ?_; (case aP => exact rfl); (case aB => exact (bw_ HB).out); (case aF => exact (fun _ _ => trivial)); (case aO => exact (ra_ HO_7.out)); (case aS => exact (below_size (bw_ HB).out)); (case aL => have := LMc19.out; omega); intro v435 w21 ho hb hg hat; rw [← Ny434.out] at ho; have n0_ := Aside0.mk (hb); have n1_ := Aside0.mk (ho); clear HB; clear HO_7; have HB := n0_; have HO436 := n1_; clear n0_ n1_; clear ho hb hg hat))
             go_roundg k1
             case measure => have := HK1.out; omega
             case rel => exact ⟨(y434), (wrap64 (x20_1 + 1)), en_, H', ⟨by have := HK1.out; omega⟩, ⟨by (with_reducible repeat (first | apply Kd.R_alloc | apply Kd.R_drewN | apply Kd.R_drew)); exact HO436.out⟩, bw_ HB⟩
            ·rw [if_neg c19] at H
             exact absurd H (by simp)
           ·rw [if_neg c17] at H
            have c17b0 : ((rd x7_1 (ji14)) == 117) = false := beq_eq_false_iff_ne.mpr c17
            have c17b1 : ((rd x7_1 (ji14)) != 117) = true := bne_iff_ne.mpr c17
            by_cases c22 : (ji14) ≤ (x7_1.length : Int)
            ·rw [if_pos c22] at H
             have c22b0 := eq_true c22
             have c22b1 : decide ((ji14) ≤ (x7_1.length : Int)) = true := decide_eq_true c22
             clear c22
             obtain ⟨y437, hy437⟩ : ∃ y_ : List Int, y_ = (x7_1.take ((ji14) : Int).toNat) := ⟨_, rfl⟩
             replace H : (impl_NormalSteps.l0 k1 a1 y437 (a1.size : Int) (wrap64 (x20_1 + 1))) = some (r1, r2) := by first | (rw [hy437]; with_reducible exact H) | (have H2_ := (Option.bind_some _ _).symm.trans H; rw [hy437]; with_reducible exact H2_) | (have H2_ := (Option.bind_some _ _).symm.trans H; with_reducible exact H2_) | with_reducible exact H | (rw [hy437]; exact H) | exact H
             have Ny437 := Aside0.mk hy437
             clear hy437
             have H' := Aside0.mk H
             clear H
             obtain ⟨Ao23, co23, eo23⟩ := Kd.R_slice HO_7.out
             subst eo23
             have p11 : 0 ≤ (x20_1 : Int) := od_
             have q11 : x20_1 < (a1.size : Int) := od_
             have hx11 := bt_at a1 x20_1
             replace p11 := eq_true p11
             replace q11 := eq_true q11
             have p433 : 0 ≤ ((ji14) : Int) := od_
             have q433 : (ji14) < (x7_1.length : Int) := od_
             obtain ⟨ad433, e433, hx433_0⟩ := Kd.at_int (Kd.R_reads' HO_7.out).2.2 (ji14) p433 q433
             cases e433
             replace p433 := eq_true p433
             replace q433 := eq_true q433
             have q24 : ((ji14) : Int) ≤ ((x7_1.length : Int) : Int) := od_
             obtain ⟨i024, hi024, _, hsz24, _⟩ := info_parts info5
             have hcut24 := cut_to (P := Try.prog) 22 5 .i64 Try.underlying22 hi024 (some ad433) x7_1.length co23 (ji14) od_ q24 (Kd.R_reads' HO_7.out).2.1
             have hr24 := Kd.R_take (m := ((ji14) : Int).toNat) HO_7.out (by omega)
             have hy24 : y437.length = ((ji14) : Int).toNat := (by rw [Ny437.out, List.length_take]; omega)
             rw [← Ny437.out] at hr24
             rw [← hy24] at hr24 hcut24
             clear hy24 hi024 hsz24 HO_7
             have HO439 := Aside0.mk hr24
             clear hr24
             replace q24 := eq_true q24
             go_wp2
             go_roundg k1
             case measure => have := HK1.out; omega
             case rel => exact ⟨(y437), (wrap64 (x20_1 + 1)), en_, H', ⟨by have := HK1.out; omega⟩, ⟨by (with_reducible repeat (first | apply Kd.R_alloc | apply Kd.R_drewN | apply Kd.R_drew)); exact HO439.out⟩, bw_ HB⟩
            ·rw [if_neg c22] at H
             exact absurd H (by simp)
          ·rw [if_neg c16] at H
           exact absurd H (by simp)
         ·rw [if_neg c15] at H
          exact absurd H (by simp)
        ·rw [if_neg c13] at H
         have c13b0 : decide (0 < (x7_1.length : Int)) = false := decide_eq_false c13
         have c13b1 : decide (0 < x7_1.length) = false := decide_eq_false (by omega)
         clear c13
         by_cases c26 : x7_1.length < 140737488355328
         ·rw [if_pos c26] at H
          have LMc26 := Aside0.mk c26
          clear c26
          obtain ⟨y440, hy440⟩ : ∃ y_ : List Int, y_ = (x7_1 ++ [bt a1 x20_1]) := ⟨_, rfl⟩
          replace H : (impl_NormalSteps.l0 k1 a1 y440 (a1.size : Int) (wrap64 (x20_1 + 1))) = some (r1, r2) := by first | (rw [hy440]; with_reducible exact H) | (have H2_ := (Option.bind_some _ _).symm.trans H; rw [hy440]; with_reducible exact H2_) | (have H2_ := (Option.bind_some _ _).symm.trans H; with_reducible exact H2_) | with_reducible exact H | (rw [hy440]; exact H) | exact H
          have Ny440 := Aside0.mk hy440
          clear hy440
          have H' := Aside0.mk H
          clear H
          obtain ⟨Ao27, co27, eo27⟩ := Kd.R_slice HO_7.out
          subst eo27
          have p11 : 0 ≤ (x20_1 : Int) := od_
          have q11 : x20_1 < (a1.size : Int) := od_
          have hx11 := bt_at a1 x20_1
          replace p11 := eq_true p11
          replace q11 := eq_true q11
          have p25 : 0 ≤ (x20_1 : Int) := od_
          have q25 : x20_1 < (a1.size : Int) := od_
          have hx25 := bt_at a1 x20_1
          replace p25 := eq_true p25
          replace q25 := eq_true q25
          go_wp2_with (first | ((with_reducible refine gate_builtin (b := .append) (xs := #[.tmp 45, .tmp 49]) rfl ?_); at_builtin; refine Kd.R_append (Kd.int .u8) (w0 := w) w.heap.size rfl (.tmp 45) (.tmp 49) 22 5 (.int .u8 0) 1 rfl Try.underlying22 info5 rfl (by decide) (by omega) (.slice Ao27 x7_1.length co27) x7_1 (bt a1 x20_1) [.int .u8 (bt a1 x20_1)] (fun _ => True) (fun _ => False) rfl rfl ?aP (fun _ hk => hk.elim) ?aF ?aO ?aB ?aS ?aL ?_; (case aP => exact rfl); (case aB => exact (bw_ HB).out); (case aF => exact (fun _ _ => trivial)); (case aO => exact (ra_ HO_7.out)); (case aS => exact (below_size (bw_ HB).out)); (case aL => have := LMc26.out; omega); intro v441 w28 ho hb hg hat; rw [← Ny440.out] at ho; have n0_ := Aside0.mk (hb); have n1_ := Aside0.mk (ho); clear HB; clear HO_7; have HB := n0_; have HO442 := n1_; clear n0_ n1_; clear ho hb hg hat))
          go_roundg k1
          case measure => have := HK1.out; omega
          case rel => exact ⟨(y440), (wrap64 (x20_1 + 1)), en_, H', ⟨by have := HK1.out; omega⟩, ⟨by (with_reducible repeat (first | apply Kd.R_alloc | apply Kd.R_drewN | apply Kd.R_drew)); exact HO442.out⟩, bw_ HB⟩
         ·rw [if_neg c26] at H
          exact absurd H (by simp)
       ·rw [if_neg c12] at H
        have c12b0 : ((bt a1 x20_1) == 117) = false := beq_eq_false_iff_ne.mpr c12
        have c12b1 : ((bt a1 x20_1) != 117) = true := bne_iff_ne.mpr c12
        by_cases c30 : x7_1.length < 140737488355328
        ·rw [if_pos c30] at H
         have LMc30 := Aside0.mk c30
         clear c30
         obtain ⟨y443, hy443⟩ : ∃ y_ : List Int, y_ = (x7_1 ++ [bt a1 x20_1]) := ⟨_, rfl⟩
         replace H : (impl_NormalSteps.l0 k1 a1 y443 (a1.size : Int) (wrap64 (x20_1 + 1))) = some (r1, r2) := by first | (rw [hy443]; with_reducible exact H) | (have H2_ := (Option.bind_some _ _).symm.trans H; rw [hy443]; with_reducible exact H2_) | (have H2_ := (Option.bind_some _ _).symm.trans H; with_reducible exact H2_) | with_reducible exact H | (rw [hy443]; exact H) | exact H
         have Ny443 := Aside0.mk hy443
         clear hy443
         have H' := Aside0.mk H
         clear H
         obtain ⟨Ao31, co31, eo31⟩ := Kd.R_slice HO_7.out
         subst eo31
         have p11 : 0 ≤ (x20_1 : Int) := od_
         have q11 : x20_1 < (a1.size : Int) := od_
         have hx11 := bt_at a1 x20_1
         replace p11 := eq_true p11
         replace q11 := eq_true q11
         have p29 : 0 ≤ (x20_1 : Int) := od_
         have q29 : x20_1 < (a1.size : Int) := od_
         have hx29 := bt_at a1 x20_1
         replace p29 := eq_true p29
         replace q29 := eq_true q29
         go_wp2_with (first | ((with_reducible refine gate_builtin (b := .append) (xs := #[.tmp 45, .tmp 49]) rfl ?_); at_builtin; refine Kd.R_append (Kd.int .u8) (w0 := w) w.heap.size rfl (.tmp 45) (.tmp 49) 22 5 (.int .u8 0) 1 rfl Try.underlying22 info5 rfl (by decide) (by omega) (.slice Ao31 x7_1.length co31) x7_1 (bt a1 x20_1) [.int .u8 (bt a1 x20_1)] (fun _ => True) (fun _ => False) rfl rfl ?aP (fun _ hk => hk.elim) ?aF ?aO ?aB ?aS ?aL ?_; (case aP => exact rfl); (case aB => exact (bw_ HB).out); (case aF => exact (fun _ _ => trivial)); (case aO => exact (ra_ HO_7.out)); (case aS => exact (below_size (bw_ HB).out)); (case aL => have := LMc30.out; omega); intro v444 w32 ho hb hg hat; rw [← Ny443.out] at ho; have n0_ := Aside0.mk (hb); have n1_ := Aside0.mk (ho); clear HB; clear HO_7; have HB := n0_; have HO445 := n1_; clear n0_ n1_; clear ho hb hg hat))
         go_roundg k1
         case measure => have := HK1.out; omega
         case rel => exact ⟨(y443), (wrap64 (x20_1 + 1)), en_, H', ⟨by have := HK1.out; omega⟩, ⟨by (with_reducible repeat (first | apply Kd.R_alloc | apply Kd.R_drewN | apply Kd.R_drew)); exact HO445.out⟩, bw_ HB⟩
        ·rw [if_neg c30] at H
         exact absurd H (by simp)
      ·rw [if_neg c10] at H
       exact absurd H (by simp)
     ·rw [if_neg c9] at H
      exact absurd H (by simp)
    ·rw [if_neg c8] at H
     have c8b0 : decide (x20_1 < (a1.size : Int)) = false := decide_eq_false c8
     clear c8
     simp only [Option.some.injEq, Prod.mk.injEq] at H
     obtain ⟨rfl, rfl⟩ := H
     have hcv33 := own_string (P := Try.prog) Try.underlying22 Try.underlying5 Try.underlying9 (Kd.own_of_R HO_7.out)
     go_wp2
     go_ret2
     exact ⟨es_, (bw_ HB).out⟩
 ·rw [if_neg c4] at H
  have c4b0 : (t429 == 0) = false := beq_eq_false_iff_ne.mpr c4
  have c4b1 : (t429 != 0) = true := bne_iff_ne.mpr c4
  simp only [Option.some.injEq, Prod.mk.injEq] at H
  obtain ⟨rfl, rfl⟩ := H
  go_enter Try.func14, Try.ntmps14
  go_wp2_with (first | ((refine gc_ 76 ?_); refine ge_ 13 Try.func76 #[.int .i64 a0, .agg #[.int .i64 0, .int .i64 0, .int .i64 0], .string a1] ?_; (with_reducible refine (impl_stepsCode.calls k a0 0 0 0 a1 t429 _ A3.out).mono ?_); rintro e w34 ⟨rfl, hb⟩; refine ⟨_, rfl, ?_⟩; replace HB := bt_ HB hb; (try clear hb)))
  go_ret2
  exact ⟨es_, (bw_ HB).out⟩
/-! ### spec_NormalSteps: function 15 -/
def spec_NormalSteps.l0 : Nat → ByteArray → List Int → Int → Option (ByteArray × Int)
 | 0, _, _, _ => none
 | k + 1, x1, x7, x8 => if x8 < (x1.size : Int) then (if 0 ≤ x8 then (if (bt x1 x8) = 117 then (if (x7.length : Int) > 0 then (if 0 ≤ (wrap64 ((x7.length : Int) - 1)) then (if (wrap64 ((x7.length : Int) - 1)) < (x7.length : Int) then (if (rd x7 (wrap64 ((x7.length : Int) - 1))) = 117 then (if x7.length < 140737488355328 then (spec_NormalSteps.l0 k x1 (x7 ++ [bt x1 x8]) (wrap64 (x8 + 1))) else (none)) else (if (wrap64 ((x7.length : Int) - 1)) ≤ (x7.length : Int) then (spec_NormalSteps.l0 k x1 (x7.take ((wrap64 ((x7.length : Int) - 1)) : Int).toNat) (wrap64 (x8 + 1))) else (none))) else (none)) else (none)) else (if x7.length < 140737488355328 then (spec_NormalSteps.l0 k x1 (x7 ++ [bt x1 x8]) (wrap64 (x8 + 1))) else (none))) else (if x7.length < 140737488355328 then (spec_NormalSteps.l0 k x1 (x7 ++ [bt x1 x8]) (wrap64 (x8 + 1))) else (none))) else (none)) else (some (strOfNums x7, 0))
def spec_NormalSteps.f (k : Nat) (a0 : Int) (a1 : ByteArray) : Option (ByteArray × Int) := (spec_l10Code.f k a0 a1 ([] : List (S25))).bind fun t446 => (if t446 = 0 then (spec_NormalSteps.l0 k a1 (([] : List Int)) 0) else (some ((⟨#[]⟩ : ByteArray), t446)))
theorem spec_NormalSteps.calls (k : Nat) (a0 : Int) (a1 : ByteArray) (r1 : ByteArray) (r2 : Int) (w : World) (h : spec_NormalSteps.f k a0 a1 = some (r1, r2)) :
  Calls Try.prog 15 #[.int .i64 a0, .string a1] w fun e w' => e = .returned (.tuple #[.string r1, .int .i64 r2]) ∧ Below w.heap.size w w' := by
 have HB := Aside0.mk (Below.refl w.heap.size w)
 have H : ((spec_l10Code.f k a0 a1 ([] : List (S25))).bind fun t446 => (if t446 = 0 then (spec_NormalSteps.l0 k a1 (([] : List Int)) 0) else (some ((⟨#[]⟩ : ByteArray), t446)))) = some (r1, r2) := h
 clear h
 replace H := ob_ H
 obtain ⟨t446, A30, H⟩ := H
 have A3 := Aside0.mk A30
 clear A30
 by_cases c4 : t446 = 0
 ·rw [if_pos c4] at H
  have c4b0 : (t446 == 0) = true := beq_iff_eq.mpr c4
  have c4b1 : (t446 != 0) = false := bne_eq_false_iff_eq.mpr c4
  clear c4
  obtain ⟨y447, hy447⟩ : ∃ y_ : List Int, y_ = (([] : List Int)) := ⟨_, rfl⟩
  replace H : (spec_NormalSteps.l0 k a1 y447 0) = some (r1, r2) := by first | (rw [hy447]; with_reducible exact H) | (have H2_ := (Option.bind_some _ _).symm.trans H; rw [hy447]; with_reducible exact H2_) | (have H2_ := (Option.bind_some _ _).symm.trans H; with_reducible exact H2_) | with_reducible exact H | (rw [hy447]; exact H) | exact H
  have Ny447 := Aside0.mk hy447
  clear hy447
  have H' := Aside0.mk H
  clear H
  go_enter Try.func15, Try.ntmps15
  go_wp2_with (first | ((refine gc_ 78 ?_); refine ge_ 12 Try.func78 #[.int .i64 a0, .string a1, .slice none 0 0] ?_; (refine (spec_l10Code.calls k a0 a1 _ _ ([] : List (S25)) t446 _ ?side1 ?side2 A3.out).mono ?_); (case side1 => exact Kd.C_nil _ _); (case side2 => exact Nat.le_refl _); rintro e w5 ⟨rfl, hb⟩; refine ⟨_, rfl, ?_⟩; replace HB := bt_ HB hb; (try clear hb)) | ((refine gd_ 16 ?_); refine Kd.R_lit (Kd.int .u8) _ 5 ?hg (N := 16) ?hd (xs := ([] : List Int)) (inner := []) (ok := fun _ => True) (okp := fun _ => True) ?hr ?hp (fun _ hk => hk) trivial (Below.refl _ _) (Nat.le_refl _) (by simp) ?_; (case hd => rfl); (case hg => rfl); (case hr => first | (go_simp; done) | (go_simp; rfl)); (case hp => exact (Reps.none _ _)); intro v448 w6 ho7 hb hg_ hnew_; clear hg_ hnew_; (first | rw [← Ny447.out] at ho7 | (simp only [Int.reduceToNat] at ho7; rw [← Ny447.out] at ho7)); have HO449 := Aside0.mk (Kd.R_lower ho7 (below_size (bw_ HB).out)); replace HB := bt_ HB hb; clear hb ho7))
  go_loopg [7, 8] k (fun kq v7 v8 w' => ∃ (x7_1 : List Int) (x8_1 : Int), v8 = .int .i64 x8_1 ∧ Aside0 (spec_NormalSteps.l0 kq a1 x7_1 x8_1 = some (r1, r2)) ∧ Aside0 (kq ≤ k) ∧ Aside0 (Kd.R (Kd.int .u8) 5 w' w.heap.size (fun _ => True) v7 x7_1) ∧ Aside0 (Below w.heap.size w w'))
  case atStart => exact ⟨(y447), (0), en_, H', ⟨Nat.le_refl _⟩, ⟨by (with_reducible repeat (first | apply Kd.R_alloc | apply Kd.R_drewN | apply Kd.R_drew)); exact HO449.out⟩, bw_ HB⟩
  case round =>
   clear H'
   try clear c1
   try clear p2
   try clear c4
   try clear c4b0
   try clear c4b1
   try clear c7
   obtain ⟨x7_1, x8_1, rfl, HA, HK1, HO_7, HB⟩ := hrel
   cases gk with
   | zero => exact absurd HA.out (by simp [spec_NormalSteps.l0])
   | succ k1 =>
    have H := HA.out
    clear HA
    simp only [spec_NormalSteps.l0] at H
    by_cases c8 : x8_1 < (a1.size : Int)
    ·rw [if_pos c8] at H
     have c8b0 : decide (x8_1 < (a1.size : Int)) = true := decide_eq_true c8
     clear c8
     by_cases c9 : 0 ≤ x8_1
     ·rw [if_pos c9] at H
      have c9b0 : decide (0 ≤ x8_1) = true := decide_eq_true c9
      clear c9
      by_cases c11 : (bt a1 x8_1) = 117
      ·rw [if_pos c11] at H
       have c11b0 : ((bt a1 x8_1) == 117) = true := beq_iff_eq.mpr c11
       have c11b1 : ((bt a1 x8_1) != 117) = false := bne_eq_false_iff_eq.mpr c11
       clear c11
       by_cases c12 : (x7_1.length : Int) > 0
       ·rw [if_pos c12] at H
        have c12b0 : decide (0 < (x7_1.length : Int)) = true := decide_eq_true c12
        have c12b1 : decide (0 < x7_1.length) = true := decide_eq_true (by omega)
        clear c12
        obtain ⟨ji13, hji13⟩ : ∃ j_ : Int, (wrap64 ((x7_1.length : Int) - 1)) = j_ := ⟨_, rfl⟩
        replace H : (if 0 ≤ (ji13) then (if (ji13) < (x7_1.length : Int) then (if (rd x7_1 (ji13)) = 117 then (if x7_1.length < 140737488355328 then (spec_NormalSteps.l0 k1 a1 (x7_1 ++ [bt a1 x8_1]) (wrap64 (x8_1 + 1))) else (none)) else (if (ji13) ≤ (x7_1.length : Int) then (spec_NormalSteps.l0 k1 a1 (x7_1.take ((ji13) : Int).toNat) (wrap64 (x8_1 + 1))) else (none))) else (none)) else (none)) = some (r1, r2) := by first | (rw [hji13] at H; exact H) | (simp only [hji13] at H ⊢; exact H)
        have hji13w : (IntKind.i64.wrap ((x7_1.length : Int) - 1)) = ji13 := (i64_w _).trans hji13
        by_cases c14 : 0 ≤ (ji13)
        ·rw [if_pos c14] at H
         have c14b0 : decide (0 ≤ (ji13)) = true := decide_eq_true c14
         clear c14
         by_cases c15 : (ji13) < (x7_1.length : Int)
         ·rw [if_pos c15] at H
          have c15b0 : decide ((ji13) < (x7_1.length : Int)) = true := decide_eq_true c15
          clear c15
          by_cases c16 : (rd x7_1 (ji13)) = 117
          ·rw [if_pos c16] at H
           have c16b0 : ((rd x7_1 (ji13)) == 117) = true := beq_iff_eq.mpr c16
           have c16b1 : ((rd x7_1 (ji13)) != 117) = false := bne_eq_false_iff_eq.mpr c16
           clear c16
           by_cases c18 : x7_1.length < 140737488355328
           ·rw [if_pos c18] at H
            have LMc18 := Aside0.mk c18
            clear c18
            obtain ⟨y451, hy451⟩ : ∃ y_ : List Int, y_ = (x7_1 ++ [bt a1 x8_1]) := ⟨_, rfl⟩
            replace H : (spec_NormalSteps.l0 k1 a1 y451 (wrap64 (x8_1 + 1))) = some (r1, r2) := by first | (rw [hy451]; with_reducible exact H) | (have H2_ := (Option.bind_some _ _).symm.trans H; rw [hy451]; with_reducible exact H2_) | (have H2_ := (Option.bind_some _ _).symm.trans H; with_reducible exact H2_) | with_reducible exact H | (rw [hy451]; exact H) | exact H
            have Ny451 := Aside0.mk hy451
            clear hy451
            have H' := Aside0.mk H
            clear H
            obtain ⟨Ao19, co19, eo19⟩ := Kd.R_slice HO_7.out
            subst eo19
            have p10 : 0 ≤ (x8_1 : Int) := od_
            have q10 : x8_1 < (a1.size : Int) := od_
            have hx10 := bt_at a1 x8_1
            replace p10 := eq_true p10
            replace q10 := eq_true q10
            have p450 : 0 ≤ ((ji13) : Int) := od_
            have q450 : (ji13) < (x7_1.length : Int) := od_
            obtain ⟨ad450, e450, hx450_0⟩ := Kd.at_int (Kd.R_reads' HO_7.out).2.2 (ji13) p450 q450
            cases e450
            replace p450 := eq_true p450
            replace q450 := eq_true q450
            have p17 : 0 ≤ (x8_1 : Int) := od_
            have q17 : x8_1 < (a1.size : Int) := od_
            have hx17 := bt_at a1 x8_1
            replace p17 := eq_true p17
            replace q17 := eq_true q17
            go_wp2_with (first | ((with_reducible refine gate_builtin (b := .append) (xs := #[.tmp 45, .tmp 49]) rfl ?_); at_builtin; refine Kd.R_append (Kd.int .u8) (w0 := w) w.heap.size rfl (.tmp 45) (.tmp 49) 22 5 (.int .u8 0) 1 rfl Try.underlying22 info5 rfl (by decide) (by omega) (.slice (some ad450) x7_1.length co19) x7_1 (bt a1 x8_1) [.int .u8 (bt a1 x8_1)] (fun _ => True) (fun _ => False) rfl rfl ?aP (fun _ hk => hk.elim) ?aF ?aO ?aB ?aS ?aL ?_; (case aP => exact rfl); (case aB => exact (bw_ HB).out); (case aF => exact (fun _ _ => trivial)); (case aO => exact (ra_ HO_7.out)); (case aS => exact (below_size (bw_ HB).out)); (case aL => have := LMc18.out; omega); intro v452 w20 ho hb hg hat; rw [← Ny451.out] at ho; have n0_ := Aside0.mk (hb); have n1_ := Aside0.mk (ho); clear HB; clear HO_7; have HB := n0_; have HO453 := n1_; clear n0_ n1_; clear ho hb hg hat))
            go_roundg k1
            case measure => have := HK1.out; omega
            case rel => exact ⟨(y451), (wrap64 (x8_1 + 1)), en_, H', ⟨by have := HK1.out; omega⟩, ⟨by (with_reducible repeat (first | apply Kd.R_alloc | apply Kd.R_drewN | apply Kd.R_drew)); exact HO453.out⟩, bw_ HB⟩
           ·rw [if_neg c18] at H
            exact absurd H (by simp)
          ·rw [if_neg c16] at H
           have c16b0 : ((rd x7_1 (ji13)) == 117) = false := beq_eq_false_iff_ne.mpr c16
           have c16b1 : ((rd x7_1 (ji13)) != 117) = true := bne_iff_ne.mpr c16
           by_cases c21 : (ji13) ≤ (x7_1.length : Int)
           ·rw [if_pos c21] at H
            have c21b0 := eq_true c21
            have c21b1 : decide ((ji13) ≤ (x7_1.length : Int)) = true := decide_eq_true c21
            clear c21
            obtain ⟨y454, hy454⟩ : ∃ y_ : List Int, y_ = (x7_1.take ((ji13) : Int).toNat) := ⟨_, rfl⟩
            replace H : (spec_NormalSteps.l0 k1 a1 y454 (wrap64 (x8_1 + 1))) = some (r1, r2) := by first | (rw [hy454]; with_reducible exact H) | (have H2_ := (Option.bind_some _ _).symm.trans H; rw [hy454]; with_reducible exact H2_) | (have H2_ := (Option.bind_some _ _).symm.trans H; with_reducible exact H2_) | with_reducible exact H | (rw [hy454]; exact H) | exact H
            have Ny454 := Aside0.mk hy454
            clear hy454
            have H' := Aside0.mk H
            clear H
            obtain ⟨Ao22, co22, eo22⟩ := Kd.R_slice HO_7.out
            subst eo22
            have p10 : 0 ≤ (x8_1 : Int) := od_
            have q10 : x8_1 < (a1.size : Int) := od_
            have hx10 := bt_at a1 x8_1
            replace p10 := eq_true p10
            replace q10 := eq_true q10
            have p450 : 0 ≤ ((ji13) : Int) := od_
            have q450 : (ji13) < (x7_1.length : Int) := od_
            obtain ⟨ad450, e450, hx450_0⟩ := Kd.at_int (Kd.R_reads' HO_7.out).2.2 (ji13) p450 q450
            cases e450
            replace p450 := eq_true p450
            replace q450 := eq_true q450
            have q23 : ((ji13) : Int) ≤ ((x7_1.length : Int) : Int) := od_
            obtain ⟨i023, hi023, _, hsz23, _⟩ := info_parts info5
            have hcut23 := cut_to (P := Try.prog) 22 5 .i64 Try.underlying22 hi023 (some ad450) x7_1.length co22 (ji13) od_ q23 (Kd.R_reads' HO_7.out).2.1
            have hr23 := Kd.R_take (m := ((ji13) : Int).toNat) HO_7.out (by omega)
            have hy23 : y454.length = ((ji13) : Int).toNat := (by rw [Ny454.out, List.length_take]; omega)
            rw [← Ny454.out] at hr23
            rw [← hy23] at hr23 hcut23
            clear hy23 hi023 hsz23 HO_7
            have HO456 := Aside0.mk hr23
            clear hr23
            replace q23 := eq_true q23
            go_wp2
            go_roundg k1
            case measure => have := HK1.out; omega
            case rel => exact ⟨(y454), (wrap64 (x8_1 + 1)), en_, H', ⟨by have := HK1.out; omega⟩, ⟨by (with_reducible repeat (first | apply Kd.R_alloc | apply Kd.R_drewN | apply Kd.R_drew)); exact HO456.out⟩, bw_ HB⟩
           ·rw [if_neg c21] at H
            exact absurd H (by simp)
         ·rw [if_neg c15] at H
          exact absurd H (by simp)
        ·rw [if_neg c14] at H
         exact absurd H (by simp)
       ·rw [if_neg c12] at H
        have c12b0 : decide (0 < (x7_1.length : Int)) = false := decide_eq_false c12
        have c12b1 : decide (0 < x7_1.length) = false := decide_eq_false (by omega)
        clear c12
        by_cases c25 : x7_1.length < 140737488355328
        ·rw [if_pos c25] at H
         have LMc25 := Aside0.mk c25
         clear c25
         obtain ⟨y457, hy457⟩ : ∃ y_ : List Int, y_ = (x7_1 ++ [bt a1 x8_1]) := ⟨_, rfl⟩
         replace H : (spec_NormalSteps.l0 k1 a1 y457 (wrap64 (x8_1 + 1))) = some (r1, r2) := by first | (rw [hy457]; with_reducible exact H) | (have H2_ := (Option.bind_some _ _).symm.trans H; rw [hy457]; with_reducible exact H2_) | (have H2_ := (Option.bind_some _ _).symm.trans H; with_reducible exact H2_) | with_reducible exact H | (rw [hy457]; exact H) | exact H
         have Ny457 := Aside0.mk hy457
         clear hy457
         have H' := Aside0.mk H
         clear H
         obtain ⟨Ao26, co26, eo26⟩ := Kd.R_slice HO_7.out
         subst eo26
         have p10 : 0 ≤ (x8_1 : Int) := od_
         have q10 : x8_1 < (a1.size : Int) := od_
         have hx10 := bt_at a1 x8_1
         replace p10 := eq_true p10
         replace q10 := eq_true q10
         have p24 : 0 ≤ (x8_1 : Int) := od_
         have q24 : x8_1 < (a1.size : Int) := od_
         have hx24 := bt_at a1 x8_1
         replace p24 := eq_true p24
         replace q24 := eq_true q24
         go_wp2_with (first | ((with_reducible refine gate_builtin (b := .append) (xs := #[.tmp 45, .tmp 49]) rfl ?_); at_builtin; refine Kd.R_append (Kd.int .u8) (w0 := w) w.heap.size rfl (.tmp 45) (.tmp 49) 22 5 (.int .u8 0) 1 rfl Try.underlying22 info5 rfl (by decide) (by omega) (.slice Ao26 x7_1.length co26) x7_1 (bt a1 x8_1) [.int .u8 (bt a1 x8_1)] (fun _ => True) (fun _ => False) rfl rfl ?aP (fun _ hk => hk.elim) ?aF ?aO ?aB ?aS ?aL ?_; (case aP => exact rfl); (case aB => exact (bw_ HB).out); (case aF => exact (fun _ _ => trivial)); (case aO => exact (ra_ HO_7.out)); (case aS => exact (below_size (bw_ HB).out)); (case aL => have := LMc25.out; omega); intro v458 w27 ho hb hg hat; rw [← Ny457.out] at ho; have n0_ := Aside0.mk (hb); have n1_ := Aside0.mk (ho); clear HB; clear HO_7; have HB := n0_; have HO459 := n1_; clear n0_ n1_; clear ho hb hg hat))
         go_roundg k1
         case measure => have := HK1.out; omega
         case rel => exact ⟨(y457), (wrap64 (x8_1 + 1)), en_, H', ⟨by have := HK1.out; omega⟩, ⟨by (with_reducible repeat (first | apply Kd.R_alloc | apply Kd.R_drewN | apply Kd.R_drew)); exact HO459.out⟩, bw_ HB⟩
        ·rw [if_neg c25] at H
         exact absurd H (by simp)
      ·rw [if_neg c11] at H
       have c11b0 : ((bt a1 x8_1) == 117) = false := beq_eq_false_iff_ne.mpr c11
       have c11b1 : ((bt a1 x8_1) != 117) = true := bne_iff_ne.mpr c11
       by_cases c29 : x7_1.length < 140737488355328
       ·rw [if_pos c29] at H
        have LMc29 := Aside0.mk c29
        clear c29
        obtain ⟨y460, hy460⟩ : ∃ y_ : List Int, y_ = (x7_1 ++ [bt a1 x8_1]) := ⟨_, rfl⟩
        replace H : (spec_NormalSteps.l0 k1 a1 y460 (wrap64 (x8_1 + 1))) = some (r1, r2) := by first | (rw [hy460]; with_reducible exact H) | (have H2_ := (Option.bind_some _ _).symm.trans H; rw [hy460]; with_reducible exact H2_) | (have H2_ := (Option.bind_some _ _).symm.trans H; with_reducible exact H2_) | with_reducible exact H | (rw [hy460]; exact H) | exact H
        have Ny460 := Aside0.mk hy460
        clear hy460
        have H' := Aside0.mk H
        clear H
        obtain ⟨Ao30, co30, eo30⟩ := Kd.R_slice HO_7.out
        subst eo30
        have p10 : 0 ≤ (x8_1 : Int) := od_
        have q10 : x8_1 < (a1.size : Int) := od_
        have hx10 := bt_at a1 x8_1
        replace p10 := eq_true p10
        replace q10 := eq_true q10
        have p28 : 0 ≤ (x8_1 : Int) := od_
        have q28 : x8_1 < (a1.size : Int) := od_
        have hx28 := bt_at a1 x8_1
        replace p28 := eq_true p28
        replace q28 := eq_true q28
        go_wp2_with (first | ((with_reducible refine gate_builtin (b := .append) (xs := #[.tmp 45, .tmp 49]) rfl ?_); at_builtin; refine Kd.R_append (Kd.int .u8) (w0 := w) w.heap.size rfl (.tmp 45) (.tmp 49) 22 5 (.int .u8 0) 1 rfl Try.underlying22 info5 rfl (by decide) (by omega) (.slice Ao30 x7_1.length co30) x7_1 (bt a1 x8_1) [.int .u8 (bt a1 x8_1)] (fun _ => True) (fun _ => False) rfl rfl ?aP (fun _ hk => hk.elim) ?aF ?aO ?aB ?aS ?aL ?_; (case aP => exact rfl); (case aB => exact (bw_ HB).out); (case aF => exact (fun _ _ => trivial)); (case aO => exact (ra_ HO_7.out)); (case aS => exact (below_size (bw_ HB).out)); (case aL => have := LMc29.out; omega); intro v461 w31 ho hb hg hat; rw [← Ny460.out] at ho; have n0_ := Aside0.mk (hb); have n1_ := Aside0.mk (ho); clear HB; clear HO_7; have HB := n0_; have HO462 := n1_; clear n0_ n1_; clear ho hb hg hat))
        go_roundg k1
        case measure => have := HK1.out; omega
        case rel => exact ⟨(y460), (wrap64 (x8_1 + 1)), en_, H', ⟨by have := HK1.out; omega⟩, ⟨by (with_reducible repeat (first | apply Kd.R_alloc | apply Kd.R_drewN | apply Kd.R_drew)); exact HO462.out⟩, bw_ HB⟩
       ·rw [if_neg c29] at H
        exact absurd H (by simp)
     ·rw [if_neg c9] at H
      exact absurd H (by simp)
    ·rw [if_neg c8] at H
     have c8b0 : decide (x8_1 < (a1.size : Int)) = false := decide_eq_false c8
     clear c8
     simp only [Option.some.injEq, Prod.mk.injEq] at H
     obtain ⟨rfl, rfl⟩ := H
     have hcv32 := own_string (P := Try.prog) Try.underlying22 Try.underlying5 Try.underlying9 (Kd.own_of_R HO_7.out)
     go_wp2
     go_ret2
     exact ⟨es_, (bw_ HB).out⟩
 ·rw [if_neg c4] at H
  have c4b0 : (t446 == 0) = false := beq_eq_false_iff_ne.mpr c4
  have c4b1 : (t446 != 0) = true := bne_iff_ne.mpr c4
  simp only [Option.some.injEq, Prod.mk.injEq] at H
  obtain ⟨rfl, rfl⟩ := H
  go_enter Try.func15, Try.ntmps15
  go_wp2_with (first | ((refine gc_ 78 ?_); refine ge_ 12 Try.func78 #[.int .i64 a0, .string a1, .slice none 0 0] ?_; (refine (spec_l10Code.calls k a0 a1 _ _ ([] : List (S25)) t446 _ ?side1 ?side2 A3.out).mono ?_); (case side1 => exact Kd.C_nil _ _); (case side2 => exact Nat.le_refl _); rintro e w33 ⟨rfl, hb⟩; refine ⟨_, rfl, ?_⟩; replace HB := bt_ HB hb; (try clear hb)))
  go_ret2
  exact ⟨es_, (bw_ HB).out⟩
/-! ### spec_l02Fine: function 155 -/
def spec_l02Fine.f (a0 : Int) : Option (Int) := (spec_l01Prime.f a0).bind fun t463 => (if t463 = true then (some a0) else (some 3))
theorem spec_l02Fine.calls (a0 : Int) (r : Int) (w : World) (h : spec_l02Fine.f a0 = some r) :
  Calls Try.prog 155 #[.int .i64 a0] w fun e w' => e = .returned (.int .i64 r) ∧ Drawn0 w w' := by
 have H : ((spec_l01Prime.f a0).bind fun t463 => (if t463 = true then (some a0) else (some 3))) = some r := h
 clear h
 replace H := ob_ H
 obtain ⟨t463, A20, H⟩ := H
 have A2 := Aside0.mk A20
 clear A20
 by_cases c3 : t463 = true
 ·subst c3
  have H1 : (some a0) = some r := by rw [if_pos rfl] at H; exact H
  clear H
  have H := H1
  clear H1
  obtain rfl := si_ H
  go_enter Try.func155, Try.ntmps155
  go_wp2_with (first | ((refine gc_ 121 ?_); refine ge_ 4 Try.func121 #[.int .i64 a0] ?_; (with_reducible refine (spec_l01Prime.calls a0 true _ A2.out).mono ?_); rintro e w' ⟨rfl, ⟨nd, rfl⟩⟩; refine ⟨_, rfl, ?_⟩))
  go_ret
  exact ⟨en_, de_⟩
 ·replace c3 := Bool.eq_false_iff.mpr c3
  subst c3
  have H1 : (some 3) = some r := by rw [if_neg (show ¬ (false = true) by decide)] at H; exact H
  clear H
  have H := H1
  clear H1
  obtain rfl := si_ H
  go_enter Try.func155, Try.ntmps155
  go_wp2_with (first | ((refine gc_ 121 ?_); refine ge_ 4 Try.func121 #[.int .i64 a0] ?_; (with_reducible refine (spec_l01Prime.calls a0 false _ A2.out).mono ?_); rintro e w' ⟨rfl, ⟨nd, rfl⟩⟩; refine ⟨_, rfl, ?_⟩))
  go_ret
  exact ⟨en_, de_⟩
end Go.Proofs.Ytgoeelhiffbjlaa.QR
