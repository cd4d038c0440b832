import Derived.Test.YtgoeelhiffbjlaaQRx8
import Derived.Test.YtgoeelhiffbjlaaQRx37
import Derived.Test.YtgoeelhiffbjlaaQRx40
import Derived.Test.YtgoeelhiffbjlaaQRx50
namespace Go.Proofs.Ytgoeelhiffbjlaa.QR
open Go.RowKit Go.Proofs.YtgoeelhiffbjlaaW.PrintWords Go.Proofs.YtgoeelhiffbjlaaW.PrintLast Go.Proofs.YtgoeelhiffbjlaaW.PrintMore
attribute [local go_sem] isSome_setCell max2_int min2_int max_two min_two max_three min_three max_four min_four
set_option linter.unusedVariables false
set_option linter.unusedSimpArgs false

/-! ### spec_ReverseSteps: function 13 -/
def spec_ReverseSteps.l0 : Nat → Int → ByteArray → ByteArray → Int → Int → Int → Int → Option (ByteArray × Int)
 | 0, _, _, _, _, _, _, _ => none
 | k + 1, x0, x2, x9, x10, x416000, x416001, x416002 => if x10 < (x2.size : Int) then (if 0 ≤ x10 then ((spec_l10Step.f k x0 x416000 x416001 x416002 (bt x2 x10)).bind fun bt420 => (if bt420.2.2.2 = true then (if (bt x2 x10) = 117 then ((spec_l10Digit.f k x0 x416000 x416001 x416002).bind fun t425 => ((some (([(wrap64 (48 + t425)) % 256] : List Int) : List Int)).bind fun y426 => (if (strOfNums y426).size + x9.size ≤ 9223372036854775807 then (spec_ReverseSteps.l0 k x0 x2 ((strOfNums y426) ++ x9) (wrap64 (x10 + 1)) bt420.1 bt420.2.1 bt420.2.2.1) else (none)))) else (if 1 + x9.size ≤ 9223372036854775807 then (spec_ReverseSteps.l0 k x0 x2 ((⟨#[117]⟩ : ByteArray) ++ x9) (wrap64 (x10 + 1)) bt420.1 bt420.2.1 bt420.2.2.1) else (none))) else (some ((⟨#[]⟩ : ByteArray), 3)))) else (none)) else (some (x9, 0))
def spec_ReverseSteps.f (k : Nat) (a0 : Int) (a1_0 : Int) (a1_1 : Int) (a1_2 : Int) (a2 : ByteArray) : Option (ByteArray × Int) := (spec_l10Code.f k a0 a2 (([(⟨a1_0, a1_1, a1_2⟩ : S25)] : List (S25)))).bind fun t419 => (if t419 = 0 then (spec_ReverseSteps.l0 k a0 a2 (⟨#[]⟩ : ByteArray) 0 a1_0 a1_1 a1_2) else (some ((⟨#[]⟩ : ByteArray), t419)))
def spec_ReverseSteps.T8 : Bool × List (List Nat × List Nat) := (true, [([], []), ([], []), ([], []), ([], []), ([2, 3], [2, 3]), ([0, 1, 4], [0, 1, 4]), ([5], [5]), ([6], [6]), ([6], [6]), ([], []), ([9, 7, 5, 0, 1, 2, 3, 4, 5, 6, 7, 9], [7, 9]), ([8, 10, 0, 1, 2, 3, 4, 5, 6, 7, 8, 9, 10], [8])])
def spec_ReverseSteps.B8 : List Nat := [0, 0, 0, 0, 12, 31, 63, 127, 127, 0, 767, 2047]
theorem spec_ReverseSteps.tab8 : rtab .any (opsOf Try.f13 8) = spec_ReverseSteps.T8 := by kernel_rfl
theorem spec_ReverseSteps.bits8 : waitsOk spec_ReverseSteps.T8.2 spec_ReverseSteps.B8 = true := by kernel_rfl
set_option maxHeartbeats 8000000 in
set_option maxRecDepth 100000 in
theorem spec_ReverseSteps.calls (k : Nat) (a0 : Int) (a1_0 : Int) (a1_1 : Int) (a1_2 : Int) (a2 : ByteArray) (r1 : ByteArray) (r2 : Int) (w : World) (h : spec_ReverseSteps.f k a0 a1_0 a1_1 a1_2 a2 = some (r1, r2)) :
  Calls Try.prog 13 #[.int .i64 a0, .agg #[.int .i64 a1_0, .int .i64 a1_1, .int .i64 a1_2], .string a2] w fun e w' => e = .returned (.tuple #[.string r1, .int .i64 r2]) ∧ Below w.heap.size w w' := by
 have hu25 := Try.underlying25
 have HB := Aside0.mk (Below.refl w.heap.size w)
 have H : ((spec_l10Code.f k a0 a2 (([(⟨a1_0, a1_1, a1_2⟩ : S25)] : List (S25)))).bind fun t419 => (if t419 = 0 then (spec_ReverseSteps.l0 k a0 a2 (⟨#[]⟩ : ByteArray) 0 a1_0 a1_1 a1_2) else (some ((⟨#[]⟩ : ByteArray), t419)))) = some (r1, r2) := h
 clear h
 obtain ⟨y416, hy416⟩ : ∃ y_ : List (S25), y_ = (([(⟨a1_0, a1_1, a1_2⟩ : S25)] : List (S25))) := ⟨_, rfl⟩
 replace H : ((spec_l10Code.f k a0 a2 y416).bind fun t419 => (if t419 = 0 then (spec_ReverseSteps.l0 k a0 a2 (⟨#[]⟩ : ByteArray) 0 a1_0 a1_1 a1_2) else (some ((⟨#[]⟩ : ByteArray), t419)))) = some (r1, r2) := by first | (rw [hy416]; with_reducible exact H) | (have H2_ := (Option.bind_some _ _).symm.trans H; rw [hy416]; with_reducible exact H2_) | (have H2_ := (Option.bind_some _ _).symm.trans H; with_reducible exact H2_) | with_reducible exact H | (rw [hy416]; exact H) | exact H
 have Ny416 := Aside0.mk hy416
 clear hy416
 replace H := ob_ H
 obtain ⟨t419, A40, H⟩ := H
 have A4 := Aside0.mk A40
 clear A40
 by_cases c5 : t419 = 0
 ·rw [if_pos c5] at H
  have c5b0 : (t419 == 0) = true := beq_iff_eq.mpr c5
  have c5b1 : (t419 != 0) = false := bne_eq_false_iff_eq.mpr c5
  clear c5
  have H' := Aside0.mk H
  clear H
  go_enter Try.func13, Try.ntmps13
  go_wp2_with (first | ((refine gd_ 4 ?_); refine bx_ 4 #[.int .i64 a1_0, .int .i64 a1_1, .int .i64 a1_2] 25 ?_; intro gb415 hg w6 BK415 hb; have GW415 := bs_ HB hg; have GE415 := bs_ HB hg; replace HB := bt_ HB hb; clear hb hg; obtain ⟨hcz7_0, hcz7_1, hcz7_2, hfz7_0, hfz7_1, hfz7_2⟩ := ch3_ BK415) | ((refine gd_ 17 ?_); refine Kd.R_lit k25 _ 25 ?hg (N := 17) ?hd (xs := ([(⟨a1_0, a1_1, a1_2⟩ : S25)] : List (S25))) (inner := [.int .i64 a1_0, .int .i64 a1_1, .int .i64 a1_2]) (ok := fun _ => True) (okp := fun _ => True) ?hr ?hp (fun _ hk => hk) trivial (Below.refl _ _) (Nat.le_refl _) (by simp) ?_; (case hd => rfl); (case hg => rfl); (case hr => first | (go_simp; done) | (go_simp; rfl)); (case hp => exact (Reps.c3 (show Kd.M k25 _ _ _ (⟨a1_0, a1_1, a1_2⟩ : S25) [.int .i64 a1_0, .int .i64 a1_1, .int .i64 a1_2] from (k25_mkM _ _ _ (⟨a1_0, a1_1, a1_2⟩ : S25) )) (Reps.none _ _))); intro v417 w8 ho9 hb hg_ hnew_; clear hg_ hnew_; (first | rw [← Ny416.out] at ho9 | (simp only [Int.reduceToNat] at ho9; rw [← Ny416.out] at ho9)); have HO418 := Aside0.mk (Kd.R_lower (Kd.R_newB ho9 (g := gb415) (o := .cells #[.int .i64 a1_0, .int .i64 a1_1, .int .i64 a1_2] 25 (0, 0)) (bl_ BK415).out) (below_size (bw_ HB).out)); replace BK415 := bb_ BK415 hb; replace HB := bt_ HB hb; clear hb ho9; obtain ⟨Ao10, co10, eo10⟩ := Kd.R_slice HO418.out; subst eo10) | ((refine gc_ 78 ?_); refine ge_ 18 Try.func78 #[.int .i64 a0, .string a2, .slice Ao10 y416.length co10] ?_; (with_reducible refine (spec_l10Code.calls k a0 a2 _ _ y416 t419 _ ?side1 ?side2 A4.out).mono ?_); (case side1 => exact ca_ (Kd.R_reads' HO418.out).2.2); (case side2 => exact (Kd.R_reads' HO418.out).2.1); rintro e w11 ⟨rfl, hb⟩; refine ⟨_, rfl, ?_⟩; replace HO418 := rb_ HO418 hb; replace BK415 := bb_ BK415 hb; replace HB := bt_ HB hb; (try clear hb)))
  go_loopg [9, 10] k (fun kq v9 v10 w' => ∃ (x9_1 : ByteArray) (x10_1 : Int) (x416000_1 : Int) (x416001_1 : Int) (x416002_1 : Int), v9 = .string x9_1 ∧ v10 = .int .i64 x10_1 ∧ Aside0 (spec_ReverseSteps.l0 kq a0 a2 x9_1 x10_1 x416000_1 x416001_1 x416002_1 = some (r1, r2)) ∧ Aside0 (kq ≤ k) ∧ Aside0 (w'.heap[gb415]? = some (.cells #[.int .i64 x416000_1, .int .i64 x416001_1, .int .i64 x416002_1] 25 (0, 0))) ∧ Aside0 (Below w.heap.size w w'))
  case atStart => exact ⟨((⟨#[]⟩ : ByteArray)), (0), (a1_0), (a1_1), (a1_2), en_, en_, H', ⟨Nat.le_refl _⟩, bl_ BK415, bw_ HB⟩
  case round =>
   clear H'
   try clear c1
   try clear p2
   try clear c3
   try clear c5
   try clear c5b0
   try clear c5b1
   try clear c7
   try clear hcz7_0 hcz7_1 hcz7_2
   try clear hfz7_0 hfz7_1 hfz7_2
   obtain ⟨x9_1, x10_1, x416000_1, x416001_1, x416002_1, rfl, rfl, HA, HK1, BK415, HB⟩ := hrel
   cases gk with
   | zero => exact absurd HA.out (by simp [spec_ReverseSteps.l0])
   | succ k1 =>
    have H := HA.out
    clear HA
    simp only [spec_ReverseSteps.l0] at H
    by_cases c12 : x10_1 < (a2.size : Int)
    ·rw [if_pos c12] at H
     have c12b0 : decide (x10_1 < (a2.size : Int)) = true := decide_eq_true c12
     clear c12
     by_cases c13 : 0 ≤ x10_1
     ·rw [if_pos c13] at H
      have c13b0 : decide (0 ≤ x10_1) = true := decide_eq_true c13
      clear c13
      replace H := ob_ H
      obtain ⟨⟨t420, t421, t422, t423⟩, A150, H⟩ := H
      have A15 := Aside0.mk A150
      clear A150
      by_cases c16 : t423 = true
      ·subst c16
       have H1 : (if (bt a2 x10_1) = 117 then ((spec_l10Digit.f k1 a0 x416000_1 x416001_1 x416002_1).bind fun t425 => ((some (([(wrap64 (48 + t425)) % 256] : List Int) : List Int)).bind fun y426 => (if (strOfNums y426).size + x9_1.size ≤ 9223372036854775807 then (spec_ReverseSteps.l0 k1 a0 a2 ((strOfNums y426) ++ x9_1) (wrap64 (x10_1 + 1)) t420 t421 t422) else (none)))) else (if 1 + x9_1.size ≤ 9223372036854775807 then (spec_ReverseSteps.l0 k1 a0 a2 ((⟨#[117]⟩ : ByteArray) ++ x9_1) (wrap64 (x10_1 + 1)) t420 t421 t422) else (none))) = some (r1, r2) := by rw [if_pos rfl] at H; exact H
       clear H
       have H := H1
       clear H1
       by_cases c18 : (bt a2 x10_1) = 117
       ·rw [if_pos c18] at H
        have c18b0 : ((bt a2 x10_1) == 117) = true := beq_iff_eq.mpr c18
        have c18b1 : ((bt a2 x10_1) != 117) = false := bne_eq_false_iff_eq.mpr c18
        clear c18
        replace H := ob_ H
        obtain ⟨t425, A190, H⟩ := H
        have A19 := Aside0.mk A190
        clear A190
        obtain ⟨y426, hy426⟩ : ∃ y_ : List Int, y_ = (([(wrap64 (48 + t425)) % 256] : List Int)) := ⟨_, rfl⟩
        replace H : (if (strOfNums y426).size + x9_1.size ≤ 9223372036854775807 then (spec_ReverseSteps.l0 k1 a0 a2 ((strOfNums y426) ++ x9_1) (wrap64 (x10_1 + 1)) t420 t421 t422) else (none)) = some (r1, r2) := by first | (rw [hy426]; with_reducible exact H) | (have H2_ := (Option.bind_some _ _).symm.trans H; rw [hy426]; with_reducible exact H2_) | (have H2_ := (Option.bind_some _ _).symm.trans H; with_reducible exact H2_) | with_reducible exact H | (rw [hy426]; exact H) | exact H
        have Ny426 := Aside0.mk hy426
        clear hy426
        by_cases c20 : (strOfNums y426).size + x9_1.size ≤ 9223372036854775807
        ·rw [if_pos c20] at H
         have c20b0 := eq_true c20
         have c20b1 : decide ((strOfNums y426).size + x9_1.size ≤ 9223372036854775807) = true := decide_eq_true c20
         try have c20b2 : (9223372036854775807 < (strOfNums y426).size + x9_1.size) = False := eq_false (Nat.not_lt.2 c20)
         have H' := Aside0.mk H
         clear H
         try go_wp2
         replace BK415 := Aside0.mk (blk_drew BK415.out)
         replace HB := Aside0.mk (below_drew1 HB.out)
         have p14 : 0 ≤ (x10_1 : Int) := od_
         have q14 : x10_1 < (a2.size : Int) := od_
         have hx14 := bt_at a2 x10_1
         replace p14 := eq_true p14
         replace q14 := eq_true q14
         refine start_ (n := 12) (S := fun w' => w'.cell? ⟨gb415, 0, none⟩ = some (.int .i64 x416000_1) ∧ w'.cell? ⟨gb415, 1, none⟩ = some (.int .i64 x416001_1) ∧ w'.cell? ⟨gb415, 2, none⟩ = some (.int .i64 x416002_1)) (ds := []) (bv_ 12 0) (by kernel_rfl) rfl rfl ⟨cz_ BK415 0, cz_ BK415 1, cz_ BK415 2⟩ (fun hHeld => ?_); refine with_tabW spec_ReverseSteps.tab8 spec_ReverseSteps.bits8 (fun HT_ HW_ => ?_)
         generalize wr.drew = w21 at BK415 HB hHeld ⊢
         refine px_ HT_ 0 29 1 ?_
         refine px_ HT_ 2 31 5 ?_
         refine px_ HT_ 3 32 13 ?_
         refine ta_ HT_ HW_ 1 (some 30) (bv_ 12 15) hHeld ?_ (hy := by rintro w' ⟨s0, s1, s2⟩; go_simp; with_reducible rfl)
         refine ta_ HT_ HW_ 4 (some 33) (bv_ 12 31) hHeld ?_ (hy := by rintro w' ⟨s0, s1, s2⟩; go_simp; with_reducible rfl)
         refine join_ (σ := Nat) 2 (bv_ 12 1023) (fun s_ => [(34, .tuple #[.agg #[.int .i64 t420, .int .i64 t421, .int .i64 t422], .bool true]), (11, .pointer (some ⟨s_, 0, none⟩)), (28, .tuple #[.agg #[.int .i64 t420, .int .i64 t421, .int .i64 t422], .bool true]), (35, .agg #[.int .i64 t420, .int .i64 t421, .int .i64 t422]), (36, .bool true)]) (fun s_ w' => (w'.cell? ⟨gb415, 0, none⟩ = some (.int .i64 x416000_1) ∧ w'.cell? ⟨gb415, 1, none⟩ = some (.int .i64 x416001_1) ∧ w'.cell? ⟨gb415, 2, none⟩ = some (.int .i64 x416002_1)) ∧ (w'.heap[gb415]? = some (.cells #[.int .i64 x416000_1, .int .i64 x416001_1, .int .i64 x416002_1] 25 (0, 0))) ∧ (w'.heap[s_]? = some (.cells #[.int .i64 0, .int .i64 0, .int .i64 0] 25 (0, 0))) ∧ (w.heap.size ≤ s_) ∧ (w.heap.size ≤ s_) ∧ (gb415 ≠ s_) ∧ (s_ ≠ gb415) ∧ (Below w.heap.size w w')) ?_ ?_
         rotate_left
         ·intro hCont
          refine tw_ HT_ 5 9 (some 34) (some 11) (bv_ 12 63) (bv_ 12 543) (fun K hK => ?_) (fun K hK => ?_)
          ·skip
           refine gs_ Try.func79 #[.int .i64 a0, .agg #[.int .i64 x416000_1, .int .i64 x416001_1, .int .i64 x416002_1], .int .u8 (bt a2 x10_1)] ?_
           with_reducible refine (spec_l10Step.calls k1 a0 x416000_1 x416001_1 x416002_1 (bt a2 x10_1) t420 t421 t422 true _ A15.out).mono ?_
           rintro e w22 ⟨rfl, hb⟩
           refine ⟨_, rfl, ?_⟩
           replace BK415 := bb_ BK415 hb
           replace HB := bt_ HB hb
           (try clear hb)
           (try clear hb2)
           (try clear hk)
           (try clear hi)
           refine hK.out _ _ ⟨cz_ BK415 0, cz_ BK415 1, cz_ BK415 2⟩ (fun hHeld => ?_)
           clear hK K
           refine nm_ (some 34) ?_
           refine px_ HT_ 6 28 127 ?_
           refine px_ HT_ 7 35 255 ?_
           refine px_ HT_ 8 36 511 ?_
           refine on_ HT_ 9 (some 11) (bv_ 12 1023) (fun K hK => ?_)
           refine bz_ 11 #[.int .i64 0, .int .i64 0, .int .i64 0] 25 ?_
           intro gb424 hg w23 BK424 hb
           have GW424 := bs_ HB hg
           have GE424 := bs_ HB hg
           have NB415_424 := bm_ BK415 hg
           have NB424_415 := bn_ BK415 hg
           replace BK415 := bb_ BK415 hb
           replace HB := bt_ HB hb
           clear hb hg
           refine hK.out _ _ ⟨cz_ BK415 0, cz_ BK415 1, cz_ BK415 2⟩ (fun hHeld => ?_)
           clear hK K
           refine nm_ (some 11) ?_
           exact norm_ (by simp only [putAll, Act.put, lstS, lstZ, lstC]) (hCont (gb424) _ ⟨hHeld, (bl_ BK415).out, (bl_ BK424).out, GW424.out, GE424.out, NB415_424.out, NB424_415.out, (bw_ HB).out⟩)
          ·skip
           refine bz_ 11 #[.int .i64 0, .int .i64 0, .int .i64 0] 25 ?_
           intro gb424 hg w22 BK424 hb
           have GW424 := bs_ HB hg
           have GE424 := bs_ HB hg
           have NB415_424 := bm_ BK415 hg
           have NB424_415 := bn_ BK415 hg
           replace BK415 := bb_ BK415 hb
           replace HB := bt_ HB hb
           clear hb hg
           refine hK.out _ _ ⟨cz_ BK415 0, cz_ BK415 1, cz_ BK415 2⟩ (fun hHeld => ?_)
           clear hK K
           refine nm_ (some 11) ?_
           refine on_ HT_ 5 (some 34) (bv_ 12 575) (fun K hK => ?_)
           refine gs_ Try.func79 #[.int .i64 a0, .agg #[.int .i64 x416000_1, .int .i64 x416001_1, .int .i64 x416002_1], .int .u8 (bt a2 x10_1)] ?_
           with_reducible refine (spec_l10Step.calls k1 a0 x416000_1 x416001_1 x416002_1 (bt a2 x10_1) t420 t421 t422 true _ A15.out).mono ?_
           rintro e w23 ⟨rfl, hb⟩
           refine ⟨_, rfl, ?_⟩
           replace BK415 := bb_ BK415 hb
           replace BK424 := bb_ BK424 hb
           replace HB := bt_ HB hb
           (try clear hb)
           (try clear hb2)
           (try clear hk)
           (try clear hi)
           refine hK.out _ _ ⟨cz_ BK415 0, cz_ BK415 1, cz_ BK415 2⟩ (fun hHeld => ?_)
           clear hK K
           refine nm_ (some 34) ?_
           refine px_ HT_ 6 28 639 ?_
           refine px_ HT_ 7 35 767 ?_
           refine px_ HT_ 8 36 1023 ?_
           exact norm_ (by simp only [putAll, Act.put, lstS, lstZ, lstC]) (hCont (gb424) _ ⟨hHeld, (bl_ BK415).out, (bl_ BK424).out, GW424.out, GE424.out, NB415_424.out, NB424_415.out, (bw_ HB).out⟩)
         rintro gb424 w24 ⟨hS_, h0_, h1_, h2_, h3_, h4_, h5_, h6_⟩
         have n0_ : Aside0 (w24.heap[gb415]? = some (.cells #[.int .i64 x416000_1, .int .i64 x416001_1, .int .i64 x416002_1] 25 (0, 0))) := ⟨h0_⟩
         have n1_ : Aside0 (w24.heap[gb424]? = some (.cells #[.int .i64 0, .int .i64 0, .int .i64 0] 25 (0, 0))) := ⟨h1_⟩
         have n2_ : Aside0 (w.heap.size ≤ gb424) := ⟨h2_⟩
         have n3_ : Aside0 (w.heap.size ≤ gb424) := ⟨h3_⟩
         have n4_ : Aside0 (gb415 ≠ gb424) := ⟨h4_⟩
         have n5_ : Aside0 (gb424 ≠ gb415) := ⟨h5_⟩
         have n6_ : Aside0 (Below w.heap.size w w24) := ⟨h6_⟩
         clear BK415
         clear HB
         clear h0_ h1_ h2_ h3_ h4_ h5_ h6_
         have BK415 := n0_
         have BK424 := n1_
         have GW424 := n2_
         have GE424 := n3_
         have NB415_424 := n4_
         have NB424_415 := n5_
         have HB := n6_
         clear n0_ n1_ n2_ n3_ n4_ n5_ n6_
         have hHeld : w24.cell? ⟨gb415, 0, none⟩ = some (.int .i64 x416000_1) ∧ w24.cell? ⟨gb415, 1, none⟩ = some (.int .i64 x416001_1) ∧ w24.cell? ⟨gb415, 2, none⟩ = some (.int .i64 x416002_1) := hS_
         refine norm_ (a' := ?_) ?_ ?_
         rotate_left
         ·simp only [putAll, Act.put, lstS, lstZ, lstC]
          rfl
         refine on_ HT_ 10 none (bv_ 12 2047) (fun K hK => ?_)
         have hs25 : w24.cell? ⟨gb424, 0, none⟩ = some (.int .i64 0) := (blk_cell BK424.out 0).trans rfl
         have hfs25 := blk_frozen BK424.out 0
         have hns25_0 := NB415_424.out
         have hms25_0 := NB424_415.out
         have hs26 : w24.cell? ⟨gb424, 1, none⟩ = some (.int .i64 0) := (blk_cell BK424.out 1).trans rfl
         have hfs26 := blk_frozen BK424.out 1
         have hns26_0 := NB415_424.out
         have hms26_0 := NB424_415.out
         have hs27 : w24.cell? ⟨gb424, 2, none⟩ = some (.int .i64 0) := (blk_cell BK424.out 2).trans rfl
         have hfs27 := blk_frozen BK424.out 2
         have hns27_0 := NB415_424.out
         have hms27_0 := NB424_415.out
         refine skip_ (w1 := ?_) (by rfl) rfl ?_ ?_
         rotate_left
         ·go_simp
          rfl
         refine hK.out _ _ ⟨(cg_ NB415_424 ((cg_ NB415_424 ((cg_ NB415_424 (hHeld.1)))))), (cg_ NB415_424 ((cg_ NB415_424 ((cg_ NB415_424 (hHeld.2.1)))))), (cg_ NB415_424 ((cg_ NB415_424 ((cg_ NB415_424 (hHeld.2.2))))))⟩ (fun hHeld => ?_)
         clear hK K
         refine px_ HT_ 11 12 4095 ?_
         refine done_ (done_of HT_.out (by kernel_rfl)) ?_
         have p17 : 0 ≤ (x10_1 : Int) := od_
         have q17 : x10_1 < (a2.size : Int) := od_
         have hx17 := bt_at a2 x10_1
         replace p17 := eq_true p17
         replace q17 := eq_true q17
         have hnb28 := NB415_424.out
         have hnc28 := NB424_415.out
         obtain ⟨hcz29_0, hcz29_1, hcz29_2, hfz29_0, hfz29_1, hfz29_2⟩ := ch3_ BK415
         try go_wp2_with (first | ((refine gc_ 84 ?_); refine ge_ 45 Try.func84 #[.int .i64 a0, .agg #[.int .i64 x416000_1, .int .i64 x416001_1, .int .i64 x416002_1]] ?_; (with_reducible refine (spec_l10Digit.calls k1 a0 x416000_1 x416001_1 x416002_1 t425 _ A19.out).mono ?_); rintro e w30 ⟨rfl, hb⟩; refine ⟨_, rfl, ?_⟩; replace BK415 := fb_ BK415 NB415_424 hb; replace BK424 := Aside0.mk (blk_below (g := gb424) (o := .cells #[.int .i64 t420, .int .i64 t421, .int .i64 t422] 25 (0, 0)) (bp_ BK424).out hb); replace HB := bt_ HB hb; (try clear hb)) | ((refine gd_ 48 ?_); refine Kd.R_lit (Kd.int .u8) _ 5 ?hg (N := 48) ?hd (xs := ([(wrap64 (48 + t425)) % 256] : List Int)) (inner := [.int .u8 ((wrap64 (48 + t425)) % 256)]) (ok := fun _ => True) (okp := fun _ => True) ?hr ?hp (fun _ hk => hk) trivial (Below.refl _ _) (Nat.le_refl _) (by simp) ?_; (case hd => rfl); (case hg => rfl); (case hr => first | (go_simp; done) | (go_simp; rfl)); (case hp => exact (Reps.one (show Kd.M (Kd.int .u8) _ _ _ ((wrap64 (48 + t425)) % 256) [.int .u8 ((wrap64 (48 + t425)) % 256)] from rfl) (Reps.none _ _))); intro v427 w31 ho32 hb hg_ hnew_; clear hg_ hnew_; (first | rw [← Ny426.out] at ho32 | (simp only [Int.reduceToNat] at ho32; rw [← Ny426.out] at ho32)); have HO428 := Aside0.mk (Kd.R_lower ho32 (below_size (bw_ HB).out)); replace BK415 := bb_ BK415 hb; replace BK424 := bb_ BK424 hb; replace HB := bt_ HB hb; clear hb ho32; have hcv33 := own_string (P := Try.prog) Try.underlying22 Try.underlying5 Try.underlying9 (Kd.own_of_R HO428.out); obtain ⟨hcz34_0, hcz34_1, hcz34_2, hfz34_0, hfz34_1, hfz34_2⟩ := ch3_ BK424; obtain ⟨hcz35_0, hcz35_1, hcz35_2, hfz35_0, hfz35_1, hfz35_2⟩ := ch3_ BK415))
         go_roundg k1
         case measure => have := HK1.out; omega
         case rel => exact ⟨((strOfNums y426) ++ x9_1), (wrap64 (x10_1 + 1)), (t420), (t421), (t422), en_, en_, H', ⟨by have := HK1.out; omega⟩, bp_ BK415, bw_ HB⟩
        ·rw [if_neg c20] at H
         exact absurd H (by simp)
       ·rw [if_neg c18] at H
        have c18b0 : ((bt a2 x10_1) == 117) = false := beq_eq_false_iff_ne.mpr c18
        have c18b1 : ((bt a2 x10_1) != 117) = true := bne_iff_ne.mpr c18
        by_cases c36 : 1 + x9_1.size ≤ 9223372036854775807
        ·rw [if_pos c36] at H
         have c36b0 := eq_true c36
         have c36b1 : decide (1 + x9_1.size ≤ 9223372036854775807) = true := decide_eq_true c36
         try have c36b2 : (9223372036854775807 < 1 + x9_1.size) = False := eq_false (Nat.not_lt.2 c36)
         have H' := Aside0.mk H
         clear H
         try go_wp2
         replace BK415 := Aside0.mk (blk_drew BK415.out)
         replace HB := Aside0.mk (below_drew1 HB.out)
         have p14 : 0 ≤ (x10_1 : Int) := od_
         have q14 : x10_1 < (a2.size : Int) := od_
         have hx14 := bt_at a2 x10_1
         replace p14 := eq_true p14
         replace q14 := eq_true q14
         refine start_ (n := 12) (S := fun w' => w'.cell? ⟨gb415, 0, none⟩ = some (.int .i64 x416000_1) ∧ w'.cell? ⟨gb415, 1, none⟩ = some (.int .i64 x416001_1) ∧ w'.cell? ⟨gb415, 2, none⟩ = some (.int .i64 x416002_1)) (ds := []) (bv_ 12 0) (by kernel_rfl) rfl rfl ⟨cz_ BK415 0, cz_ BK415 1, cz_ BK415 2⟩ (fun hHeld => ?_); refine with_tabW spec_ReverseSteps.tab8 spec_ReverseSteps.bits8 (fun HT_ HW_ => ?_)
         generalize wr.drew = w37 at BK415 HB hHeld ⊢
         refine px_ HT_ 0 29 1 ?_
         refine px_ HT_ 2 31 5 ?_
         refine px_ HT_ 3 32 13 ?_
         refine ta_ HT_ HW_ 1 (some 30) (bv_ 12 15) hHeld ?_ (hy := by rintro w' ⟨s0, s1, s2⟩; go_simp; with_reducible rfl)
         refine ta_ HT_ HW_ 4 (some 33) (bv_ 12 31) hHeld ?_ (hy := by rintro w' ⟨s0, s1, s2⟩; go_simp; with_reducible rfl)
         refine join_ (σ := Nat) 2 (bv_ 12 1023) (fun s_ => [(34, .tuple #[.agg #[.int .i64 t420, .int .i64 t421, .int .i64 t422], .bool true]), (11, .pointer (some ⟨s_, 0, none⟩)), (28, .tuple #[.agg #[.int .i64 t420, .int .i64 t421, .int .i64 t422], .bool true]), (35, .agg #[.int .i64 t420, .int .i64 t421, .int .i64 t422]), (36, .bool true)]) (fun s_ w' => (w'.cell? ⟨gb415, 0, none⟩ = some (.int .i64 x416000_1) ∧ w'.cell? ⟨gb415, 1, none⟩ = some (.int .i64 x416001_1) ∧ w'.cell? ⟨gb415, 2, none⟩ = some (.int .i64 x416002_1)) ∧ (w'.heap[gb415]? = some (.cells #[.int .i64 x416000_1, .int .i64 x416001_1, .int .i64 x416002_1] 25 (0, 0))) ∧ (w'.heap[s_]? = some (.cells #[.int .i64 0, .int .i64 0, .int .i64 0] 25 (0, 0))) ∧ (w.heap.size ≤ s_) ∧ (w.heap.size ≤ s_) ∧ (gb415 ≠ s_) ∧ (s_ ≠ gb415) ∧ (Below w.heap.size w w')) ?_ ?_
         rotate_left
         ·intro hCont
          refine tw_ HT_ 5 9 (some 34) (some 11) (bv_ 12 63) (bv_ 12 543) (fun K hK => ?_) (fun K hK => ?_)
          ·skip
           refine gs_ Try.func79 #[.int .i64 a0, .agg #[.int .i64 x416000_1, .int .i64 x416001_1, .int .i64 x416002_1], .int .u8 (bt a2 x10_1)] ?_
           with_reducible refine (spec_l10Step.calls k1 a0 x416000_1 x416001_1 x416002_1 (bt a2 x10_1) t420 t421 t422 true _ A15.out).mono ?_
           rintro e w38 ⟨rfl, hb⟩
           refine ⟨_, rfl, ?_⟩
           replace BK415 := bb_ BK415 hb
           replace HB := bt_ HB hb
           (try clear hb)
           (try clear hb2)
           (try clear hk)
           (try clear hi)
           refine hK.out _ _ ⟨cz_ BK415 0, cz_ BK415 1, cz_ BK415 2⟩ (fun hHeld => ?_)
           clear hK K
           refine nm_ (some 34) ?_
           refine px_ HT_ 6 28 127 ?_
           refine px_ HT_ 7 35 255 ?_
           refine px_ HT_ 8 36 511 ?_
           refine on_ HT_ 9 (some 11) (bv_ 12 1023) (fun K hK => ?_)
           refine bz_ 11 #[.int .i64 0, .int .i64 0, .int .i64 0] 25 ?_
           intro gb424 hg w39 BK424 hb
           have GW424 := bs_ HB hg
           have GE424 := bs_ HB hg
           have NB415_424 := bm_ BK415 hg
           have NB424_415 := bn_ BK415 hg
           replace BK415 := bb_ BK415 hb
           replace HB := bt_ HB hb
           clear hb hg
           refine hK.out _ _ ⟨cz_ BK415 0, cz_ BK415 1, cz_ BK415 2⟩ (fun hHeld => ?_)
           clear hK K
           refine nm_ (some 11) ?_
           exact norm_ (by simp only [putAll, Act.put, lstS, lstZ, lstC]) (hCont (gb424) _ ⟨hHeld, (bl_ BK415).out, (bl_ BK424).out, GW424.out, GE424.out, NB415_424.out, NB424_415.out, (bw_ HB).out⟩)
          ·skip
           refine bz_ 11 #[.int .i64 0, .int .i64 0, .int .i64 0] 25 ?_
           intro gb424 hg w38 BK424 hb
           have GW424 := bs_ HB hg
           have GE424 := bs_ HB hg
           have NB415_424 := bm_ BK415 hg
           have NB424_415 := bn_ BK415 hg
           replace BK415 := bb_ BK415 hb
           replace HB := bt_ HB hb
           clear hb hg
           refine hK.out _ _ ⟨cz_ BK415 0, cz_ BK415 1, cz_ BK415 2⟩ (fun hHeld => ?_)
           clear hK K
           refine nm_ (some 11) ?_
           refine on_ HT_ 5 (some 34) (bv_ 12 575) (fun K hK => ?_)
           refine gs_ Try.func79 #[.int .i64 a0, .agg #[.int .i64 x416000_1, .int .i64 x416001_1, .int .i64 x416002_1], .int .u8 (bt a2 x10_1)] ?_
           with_reducible refine (spec_l10Step.calls k1 a0 x416000_1 x416001_1 x416002_1 (bt a2 x10_1) t420 t421 t422 true _ A15.out).mono ?_
           rintro e w39 ⟨rfl, hb⟩
           refine ⟨_, rfl, ?_⟩
           replace BK415 := bb_ BK415 hb
           replace BK424 := bb_ BK424 hb
           replace HB := bt_ HB hb
           (try clear hb)
           (try clear hb2)
           (try clear hk)
           (try clear hi)
           refine hK.out _ _ ⟨cz_ BK415 0, cz_ BK415 1, cz_ BK415 2⟩ (fun hHeld => ?_)
           clear hK K
           refine nm_ (some 34) ?_
           refine px_ HT_ 6 28 639 ?_
           refine px_ HT_ 7 35 767 ?_
           refine px_ HT_ 8 36 1023 ?_
           exact norm_ (by simp only [putAll, Act.put, lstS, lstZ, lstC]) (hCont (gb424) _ ⟨hHeld, (bl_ BK415).out, (bl_ BK424).out, GW424.out, GE424.out, NB415_424.out, NB424_415.out, (bw_ HB).out⟩)
         rintro gb424 w40 ⟨hS_, h0_, h1_, h2_, h3_, h4_, h5_, h6_⟩
         have n0_ : Aside0 (w40.heap[gb415]? = some (.cells #[.int .i64 x416000_1, .int .i64 x416001_1, .int .i64 x416002_1] 25 (0, 0))) := ⟨h0_⟩
         have n1_ : Aside0 (w40.heap[gb424]? = some (.cells #[.int .i64 0, .int .i64 0, .int .i64 0] 25 (0, 0))) := ⟨h1_⟩
         have n2_ : Aside0 (w.heap.size ≤ gb424) := ⟨h2_⟩
         have n3_ : Aside0 (w.heap.size ≤ gb424) := ⟨h3_⟩
         have n4_ : Aside0 (gb415 ≠ gb424) := ⟨h4_⟩
         have n5_ : Aside0 (gb424 ≠ gb415) := ⟨h5_⟩
         have n6_ : Aside0 (Below w.heap.size w w40) := ⟨h6_⟩
         clear BK415
         clear HB
         clear h0_ h1_ h2_ h3_ h4_ h5_ h6_
         have BK415 := n0_
         have BK424 := n1_
         have GW424 := n2_
         have GE424 := n3_
         have NB415_424 := n4_
         have NB424_415 := n5_
         have HB := n6_
         clear n0_ n1_ n2_ n3_ n4_ n5_ n6_
         have hHeld : w40.cell? ⟨gb415, 0, none⟩ = some (.int .i64 x416000_1) ∧ w40.cell? ⟨gb415, 1, none⟩ = some (.int .i64 x416001_1) ∧ w40.cell? ⟨gb415, 2, none⟩ = some (.int .i64 x416002_1) := hS_
         refine norm_ (a' := ?_) ?_ ?_
         rotate_left
         ·simp only [putAll, Act.put, lstS, lstZ, lstC]
          rfl
         refine on_ HT_ 10 none (bv_ 12 2047) (fun K hK => ?_)
         have hs41 : w40.cell? ⟨gb424, 0, none⟩ = some (.int .i64 0) := (blk_cell BK424.out 0).trans rfl
         have hfs41 := blk_frozen BK424.out 0
         have hns41_0 := NB415_424.out
         have hms41_0 := NB424_415.out
         have hs42 : w40.cell? ⟨gb424, 1, none⟩ = some (.int .i64 0) := (blk_cell BK424.out 1).trans rfl
         have hfs42 := blk_frozen BK424.out 1
         have hns42_0 := NB415_424.out
         have hms42_0 := NB424_415.out
         have hs43 : w40.cell? ⟨gb424, 2, none⟩ = some (.int .i64 0) := (blk_cell BK424.out 2).trans rfl
         have hfs43 := blk_frozen BK424.out 2
         have hns43_0 := NB415_424.out
         have hms43_0 := NB424_415.out
         refine skip_ (w1 := ?_) (by rfl) rfl ?_ ?_
         rotate_left
         ·go_simp
          rfl
         refine hK.out _ _ ⟨(cg_ NB415_424 ((cg_ NB415_424 ((cg_ NB415_424 (hHeld.1)))))), (cg_ NB415_424 ((cg_ NB415_424 ((cg_ NB415_424 (hHeld.2.1)))))), (cg_ NB415_424 ((cg_ NB415_424 ((cg_ NB415_424 (hHeld.2.2))))))⟩ (fun hHeld => ?_)
         clear hK K
         refine px_ HT_ 11 12 4095 ?_
         refine done_ (done_of HT_.out (by kernel_rfl)) ?_
         have p17 : 0 ≤ (x10_1 : Int) := od_
         have q17 : x10_1 < (a2.size : Int) := od_
         have hx17 := bt_at a2 x10_1
         replace p17 := eq_true p17
         replace q17 := eq_true q17
         have hnb44 := NB424_415.out
         have hnc44 := NB415_424.out
         obtain ⟨hcz45_0, hcz45_1, hcz45_2, hfz45_0, hfz45_1, hfz45_2⟩ := ch3_ BK424
         obtain ⟨hcz46_0, hcz46_1, hcz46_2, hfz46_0, hfz46_1, hfz46_2⟩ := ch3_ BK415
         try go_wp2
         go_roundg k1
         case measure => have := HK1.out; omega
         case rel => exact ⟨((⟨#[117]⟩ : ByteArray) ++ x9_1), (wrap64 (x10_1 + 1)), (t420), (t421), (t422), en_, en_, H', ⟨by have := HK1.out; omega⟩, bp_ BK415, bw_ HB⟩
        ·rw [if_neg c36] at H
         exact absurd H (by simp)
      ·replace c16 := Bool.eq_false_iff.mpr c16
       subst c16
       have H1 : (some ((⟨#[]⟩ : ByteArray), 3)) = some (r1, r2) := by rw [if_neg (show ¬ (false = true) by decide)] at H; exact H
       clear H
       have H := H1
       clear H1
       simp only [Option.some.injEq, Prod.mk.injEq] at H
       obtain ⟨rfl, rfl⟩ := H
       try go_wp2
       replace BK415 := Aside0.mk (blk_drew BK415.out)
       replace HB := Aside0.mk (below_drew1 HB.out)
       have p14 : 0 ≤ (x10_1 : Int) := od_
       have q14 : x10_1 < (a2.size : Int) := od_
       have hx14 := bt_at a2 x10_1
       replace p14 := eq_true p14
       replace q14 := eq_true q14
       refine start_ (n := 12) (S := fun w' => w'.cell? ⟨gb415, 0, none⟩ = some (.int .i64 x416000_1) ∧ w'.cell? ⟨gb415, 1, none⟩ = some (.int .i64 x416001_1) ∧ w'.cell? ⟨gb415, 2, none⟩ = some (.int .i64 x416002_1)) (ds := []) (bv_ 12 0) (by kernel_rfl) rfl rfl ⟨cz_ BK415 0, cz_ BK415 1, cz_ BK415 2⟩ (fun hHeld => ?_); refine with_tabW spec_ReverseSteps.tab8 spec_ReverseSteps.bits8 (fun HT_ HW_ => ?_)
       generalize wr.drew = w47 at BK415 HB hHeld ⊢
       refine px_ HT_ 0 29 1 ?_
       refine px_ HT_ 2 31 5 ?_
       refine px_ HT_ 3 32 13 ?_
       refine ta_ HT_ HW_ 1 (some 30) (bv_ 12 15) hHeld ?_ (hy := by rintro w' ⟨s0, s1, s2⟩; go_simp; with_reducible rfl)
       refine ta_ HT_ HW_ 4 (some 33) (bv_ 12 31) hHeld ?_ (hy := by rintro w' ⟨s0, s1, s2⟩; go_simp; with_reducible rfl)
       refine join_ (σ := Nat) 2 (bv_ 12 1023) (fun s_ => [(34, .tuple #[.agg #[.int .i64 t420, .int .i64 t421, .int .i64 t422], .bool false]), (11, .pointer (some ⟨s_, 0, none⟩)), (28, .tuple #[.agg #[.int .i64 t420, .int .i64 t421, .int .i64 t422], .bool false]), (35, .agg #[.int .i64 t420, .int .i64 t421, .int .i64 t422]), (36, .bool false)]) (fun s_ w' => (w'.cell? ⟨gb415, 0, none⟩ = some (.int .i64 x416000_1) ∧ w'.cell? ⟨gb415, 1, none⟩ = some (.int .i64 x416001_1) ∧ w'.cell? ⟨gb415, 2, none⟩ = some (.int .i64 x416002_1)) ∧ (w'.heap[gb415]? = some (.cells #[.int .i64 x416000_1, .int .i64 x416001_1, .int .i64 x416002_1] 25 (0, 0))) ∧ (w'.heap[s_]? = some (.cells #[.int .i64 0, .int .i64 0, .int .i64 0] 25 (0, 0))) ∧ (w.heap.size ≤ s_) ∧ (w.heap.size ≤ s_) ∧ (gb415 ≠ s_) ∧ (s_ ≠ gb415) ∧ (Below w.heap.size w w')) ?_ ?_
       rotate_left
       ·intro hCont
        refine tw_ HT_ 5 9 (some 34) (some 11) (bv_ 12 63) (bv_ 12 543) (fun K hK => ?_) (fun K hK => ?_)
        ·skip
         refine gs_ Try.func79 #[.int .i64 a0, .agg #[.int .i64 x416000_1, .int .i64 x416001_1, .int .i64 x416002_1], .int .u8 (bt a2 x10_1)] ?_
         with_reducible refine (spec_l10Step.calls k1 a0 x416000_1 x416001_1 x416002_1 (bt a2 x10_1) t420 t421 t422 false _ A15.out).mono ?_
         rintro e w48 ⟨rfl, hb⟩
         refine ⟨_, rfl, ?_⟩
         replace BK415 := bb_ BK415 hb
         replace HB := bt_ HB hb
         (try clear hb)
         (try clear hb2)
         (try clear hk)
         (try clear hi)
         refine hK.out _ _ ⟨cz_ BK415 0, cz_ BK415 1, cz_ BK415 2⟩ (fun hHeld => ?_)
         clear hK K
         refine nm_ (some 34) ?_
         refine px_ HT_ 6 28 127 ?_
         refine px_ HT_ 7 35 255 ?_
         refine px_ HT_ 8 36 511 ?_
         refine on_ HT_ 9 (some 11) (bv_ 12 1023) (fun K hK => ?_)
         refine bz_ 11 #[.int .i64 0, .int .i64 0, .int .i64 0] 25 ?_
         intro gb424 hg w49 BK424 hb
         have GW424 := bs_ HB hg
         have GE424 := bs_ HB hg
         have NB415_424 := bm_ BK415 hg
         have NB424_415 := bn_ BK415 hg
         replace BK415 := bb_ BK415 hb
         replace HB := bt_ HB hb
         clear hb hg
         refine hK.out _ _ ⟨cz_ BK415 0, cz_ BK415 1, cz_ BK415 2⟩ (fun hHeld => ?_)
         clear hK K
         refine nm_ (some 11) ?_
         exact norm_ (by simp only [putAll, Act.put, lstS, lstZ, lstC]) (hCont (gb424) _ ⟨hHeld, (bl_ BK415).out, (bl_ BK424).out, GW424.out, GE424.out, NB415_424.out, NB424_415.out, (bw_ HB).out⟩)
        ·skip
         refine bz_ 11 #[.int .i64 0, .int .i64 0, .int .i64 0] 25 ?_
         intro gb424 hg w48 BK424 hb
         have GW424 := bs_ HB hg
         have GE424 := bs_ HB hg
         have NB415_424 := bm_ BK415 hg
         have NB424_415 := bn_ BK415 hg
         replace BK415 := bb_ BK415 hb
         replace HB := bt_ HB hb
         clear hb hg
         refine hK.out _ _ ⟨cz_ BK415 0, cz_ BK415 1, cz_ BK415 2⟩ (fun hHeld => ?_)
         clear hK K
         refine nm_ (some 11) ?_
         refine on_ HT_ 5 (some 34) (bv_ 12 575) (fun K hK => ?_)
         refine gs_ Try.func79 #[.int .i64 a0, .agg #[.int .i64 x416000_1, .int .i64 x416001_1, .int .i64 x416002_1], .int .u8 (bt a2 x10_1)] ?_
         with_reducible refine (spec_l10Step.calls k1 a0 x416000_1 x416001_1 x416002_1 (bt a2 x10_1) t420 t421 t422 false _ A15.out).mono ?_
         rintro e w49 ⟨rfl, hb⟩
         refine ⟨_, rfl, ?_⟩
         replace BK415 := bb_ BK415 hb
         replace BK424 := bb_ BK424 hb
         replace HB := bt_ HB hb
         (try clear hb)
         (try clear hb2)
         (try clear hk)
         (try clear hi)
         refine hK.out _ _ ⟨cz_ BK415 0, cz_ BK415 1, cz_ BK415 2⟩ (fun hHeld => ?_)
         clear hK K
         refine nm_ (some 34) ?_
         refine px_ HT_ 6 28 639 ?_
         refine px_ HT_ 7 35 767 ?_
         refine px_ HT_ 8 36 1023 ?_
         exact norm_ (by simp only [putAll, Act.put, lstS, lstZ, lstC]) (hCont (gb424) _ ⟨hHeld, (bl_ BK415).out, (bl_ BK424).out, GW424.out, GE424.out, NB415_424.out, NB424_415.out, (bw_ HB).out⟩)
       rintro gb424 w50 ⟨hS_, h0_, h1_, h2_, h3_, h4_, h5_, h6_⟩
       have n0_ : Aside0 (w50.heap[gb415]? = some (.cells #[.int .i64 x416000_1, .int .i64 x416001_1, .int .i64 x416002_1] 25 (0, 0))) := ⟨h0_⟩
       have n1_ : Aside0 (w50.heap[gb424]? = some (.cells #[.int .i64 0, .int .i64 0, .int .i64 0] 25 (0, 0))) := ⟨h1_⟩
       have n2_ : Aside0 (w.heap.size ≤ gb424) := ⟨h2_⟩
       have n3_ : Aside0 (w.heap.size ≤ gb424) := ⟨h3_⟩
       have n4_ : Aside0 (gb415 ≠ gb424) := ⟨h4_⟩
       have n5_ : Aside0 (gb424 ≠ gb415) := ⟨h5_⟩
       have n6_ : Aside0 (Below w.heap.size w w50) := ⟨h6_⟩
       clear BK415
       clear HB
       clear h0_ h1_ h2_ h3_ h4_ h5_ h6_
       have BK415 := n0_
       have BK424 := n1_
       have GW424 := n2_
       have GE424 := n3_
       have NB415_424 := n4_
       have NB424_415 := n5_
       have HB := n6_
       clear n0_ n1_ n2_ n3_ n4_ n5_ n6_
       have hHeld : w50.cell? ⟨gb415, 0, none⟩ = some (.int .i64 x416000_1) ∧ w50.cell? ⟨gb415, 1, none⟩ = some (.int .i64 x416001_1) ∧ w50.cell? ⟨gb415, 2, none⟩ = some (.int .i64 x416002_1) := hS_
       refine norm_ (a' := ?_) ?_ ?_
       rotate_left
       ·simp only [putAll, Act.put, lstS, lstZ, lstC]
        rfl
       refine on_ HT_ 10 none (bv_ 12 2047) (fun K hK => ?_)
       have hs51 : w50.cell? ⟨gb424, 0, none⟩ = some (.int .i64 0) := (blk_cell BK424.out 0).trans rfl
       have hfs51 := blk_frozen BK424.out 0
       have hns51_0 := NB415_424.out
       have hms51_0 := NB424_415.out
       have hs52 : w50.cell? ⟨gb424, 1, none⟩ = some (.int .i64 0) := (blk_cell BK424.out 1).trans rfl
       have hfs52 := blk_frozen BK424.out 1
       have hns52_0 := NB415_424.out
       have hms52_0 := NB424_415.out
       have hs53 : w50.cell? ⟨gb424, 2, none⟩ = some (.int .i64 0) := (blk_cell BK424.out 2).trans rfl
       have hfs53 := blk_frozen BK424.out 2
       have hns53_0 := NB415_424.out
       have hms53_0 := NB424_415.out
       refine skip_ (w1 := ?_) (by rfl) rfl ?_ ?_
       rotate_left
       ·go_simp
        rfl
       refine hK.out _ _ ⟨(cg_ NB415_424 ((cg_ NB415_424 ((cg_ NB415_424 (hHeld.1)))))), (cg_ NB415_424 ((cg_ NB415_424 ((cg_ NB415_424 (hHeld.2.1)))))), (cg_ NB415_424 ((cg_ NB415_424 ((cg_ NB415_424 (hHeld.2.2))))))⟩ (fun hHeld => ?_)
       clear hK K
       refine px_ HT_ 11 12 4095 ?_
       refine done_ (done_of HT_.out (by kernel_rfl)) ?_
       try go_wp2
       go_ret2
       exact ⟨es_, (bw_ HB).out⟩
     ·rw [if_neg c13] at H
      exact absurd H (by simp)
    ·rw [if_neg c12] at H
     have c12b0 : decide (x10_1 < (a2.size : Int)) = false := decide_eq_false c12
     clear c12
     simp only [Option.some.injEq, Prod.mk.injEq] at H
     obtain ⟨rfl, rfl⟩ := H
     go_wp2
     go_ret2
     exact ⟨es_, (bw_ HB).out⟩
 ·rw [if_neg c5] at H
  have c5b0 : (t419 == 0) = false := beq_eq_false_iff_ne.mpr c5
  have c5b1 : (t419 != 0) = true := bne_iff_ne.mpr c5
  simp only [Option.some.injEq, Prod.mk.injEq] at H
  obtain ⟨rfl, rfl⟩ := H
  go_enter Try.func13, Try.ntmps13
  go_wp2_with (first | ((refine gd_ 4 ?_); refine bx_ 4 #[.int .i64 a1_0, .int .i64 a1_1, .int .i64 a1_2] 25 ?_; intro gb415 hg w54 BK415 hb; have GW415 := bs_ HB hg; have GE415 := bs_ HB hg; replace HB := bt_ HB hb; clear hb hg; obtain ⟨hcz55_0, hcz55_1, hcz55_2, hfz55_0, hfz55_1, hfz55_2⟩ := ch3_ BK415) | ((refine gd_ 17 ?_); refine Kd.R_lit k25 _ 25 ?hg (N := 17) ?hd (xs := ([(⟨a1_0, a1_1, a1_2⟩ : S25)] : List (S25))) (inner := [.int .i64 a1_0, .int .i64 a1_1, .int .i64 a1_2]) (ok := fun _ => True) (okp := fun _ => True) ?hr ?hp (fun _ hk => hk) trivial (Below.refl _ _) (Nat.le_refl _) (by simp) ?_; (case hd => rfl); (case hg => rfl); (case hr => first | (go_simp; done) | (go_simp; rfl)); (case hp => exact (Reps.c3 (show Kd.M k25 _ _ _ (⟨a1_0, a1_1, a1_2⟩ : S25) [.int .i64 a1_0, .int .i64 a1_1, .int .i64 a1_2] from (k25_mkM _ _ _ (⟨a1_0, a1_1, a1_2⟩ : S25) )) (Reps.none _ _))); intro v417 w56 ho57 hb hg_ hnew_; clear hg_ hnew_; (first | rw [← Ny416.out] at ho57 | (simp only [Int.reduceToNat] at ho57; rw [← Ny416.out] at ho57)); have HO418 := Aside0.mk (Kd.R_lower (Kd.R_newB ho57 (g := gb415) (o := .cells #[.int .i64 a1_0, .int .i64 a1_1, .int .i64 a1_2] 25 (0, 0)) (bl_ BK415).out) (below_size (bw_ HB).out)); replace BK415 := bb_ BK415 hb; replace HB := bt_ HB hb; clear hb ho57; obtain ⟨Ao58, co58, eo58⟩ := Kd.R_slice HO418.out; subst eo58) | ((refine gc_ 78 ?_); refine ge_ 18 Try.func78 #[.int .i64 a0, .string a2, .slice Ao58 y416.length co58] ?_; (with_reducible refine (spec_l10Code.calls k a0 a2 _ _ y416 t419 _ ?side1 ?side2 A4.out).mono ?_); (case side1 => exact ca_ (Kd.R_reads' HO418.out).2.2); (case side2 => exact (Kd.R_reads' HO418.out).2.1); rintro e w59 ⟨rfl, hb⟩; refine ⟨_, rfl, ?_⟩; replace HO418 := rb_ HO418 hb; replace BK415 := bb_ BK415 hb; replace HB := bt_ HB hb; (try clear hb)))
  go_ret2
  exact ⟨es_, (bw_ HB).out⟩
end Go.Proofs.Ytgoeelhiffbjlaa.QR
