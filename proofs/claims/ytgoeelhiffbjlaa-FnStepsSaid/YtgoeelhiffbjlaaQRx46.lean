import Derived.Test.YtgoeelhiffbjlaaQRx8
import Derived.Test.YtgoeelhiffbjlaaQRx37
import Derived.Test.YtgoeelhiffbjlaaQRx40
import Derived.Test.YtgoeelhiffbjlaaQRx30
namespace Go.Proofs.Ytgoeelhiffbjlaa.QR
set_option maxHeartbeats 8000000
set_option maxRecDepth 100000
open Go.RowKit Go.Proofs.YtgoeelhiffbjlaaW.PrintWords Go.Proofs.YtgoeelhiffbjlaaW.PrintLast Go.Proofs.YtgoeelhiffbjlaaW.PrintMore
attribute [local go_sem] isSome_setCell max2_int min2_int max_two min_two max_three min_three max_four min_four
set_option linter.unusedVariables false
set_option linter.unusedSimpArgs false

/-! ### spec_FollowSteps: function 11 -/
def spec_FollowSteps.l0 : Nat → Int → ByteArray → Int → Int → Int → Int → Option (Int × Int × Int × Int)
 | 0, _, _, _, _, _, _ => none
 | k + 1, x0, x2, x9, x380000, x380001, x380002 => if x9 < (x2.size : Int) then (if 0 ≤ x9 then ((spec_l10Step.f k x0 x380000 x380001 x380002 (bt x2 x9)).bind fun bt385 => (if bt385.2.2.2 = true then (spec_FollowSteps.l0 k x0 x2 (wrap64 (x9 + 1)) bt385.1 bt385.2.1 bt385.2.2.1) else (some (0, 0, 0, 3)))) else (none)) else (some (x380000, x380001, x380002, 0))
def spec_FollowSteps.f (k : Nat) (a0 : Int) (a1_0 : Int) (a1_1 : Int) (a1_2 : Int) (a2 : ByteArray) : Option (Int × Int × Int × Int) := (spec_l10Code.f k a0 a2 (([(⟨a1_0, a1_1, a1_2⟩ : S25)] : List (S25)))).bind fun t384 => (if t384 = 0 then (spec_FollowSteps.l0 k a0 a2 0 a1_0 a1_1 a1_2) else (some (0, 0, 0, t384)))
def spec_FollowSteps.T7 : Bool × List (List Nat × List Nat) := (true, [([], []), ([], []), ([], []), ([], []), ([2, 3], [2, 3]), ([0, 1, 4], [0, 1, 4]), ([5], [5]), ([6], [6]), ([6], [6]), ([], []), ([9, 7, 5, 0, 1, 2, 3, 4, 5, 6, 7, 9], [7, 9]), ([8, 10, 0, 1, 2, 3, 4, 5, 6, 7, 8, 9, 10], [8])])
def spec_FollowSteps.B7 : List Nat := [0, 0, 0, 0, 12, 31, 63, 127, 127, 0, 767, 2047]
theorem spec_FollowSteps.tab7 : rtab .any (opsOf Try.f11 7) = spec_FollowSteps.T7 := by kernel_rfl
theorem spec_FollowSteps.bits7 : waitsOk spec_FollowSteps.T7.2 spec_FollowSteps.B7 = true := by kernel_rfl
theorem spec_FollowSteps.calls (k : Nat) (a0 : Int) (a1_0 : Int) (a1_1 : Int) (a1_2 : Int) (a2 : ByteArray) (r1 : Int) (r2 : Int) (r3 : Int) (r4 : Int) (w : World) (h : spec_FollowSteps.f k a0 a1_0 a1_1 a1_2 a2 = some (r1, r2, r3, r4)) :
  Calls Try.prog 11 #[.int .i64 a0, .agg #[.int .i64 a1_0, .int .i64 a1_1, .int .i64 a1_2], .string a2] w fun e w' => e = .returned (.tuple #[.agg #[.int .i64 r1, .int .i64 r2, .int .i64 r3], .int .i64 r4]) ∧ Below w.heap.size w w' := by
 have hu25 := Try.underlying25
 have HB := Aside0.mk (Below.refl w.heap.size w)
 have H : ((spec_l10Code.f k a0 a2 (([(⟨a1_0, a1_1, a1_2⟩ : S25)] : List (S25)))).bind fun t384 => (if t384 = 0 then (spec_FollowSteps.l0 k a0 a2 0 a1_0 a1_1 a1_2) else (some (0, 0, 0, t384)))) = some (r1, r2, r3, r4) := h
 clear h
 obtain ⟨y381, hy381⟩ : ∃ y_ : List (S25), y_ = (([(⟨a1_0, a1_1, a1_2⟩ : S25)] : List (S25))) := ⟨_, rfl⟩
 replace H : ((spec_l10Code.f k a0 a2 y381).bind fun t384 => (if t384 = 0 then (spec_FollowSteps.l0 k a0 a2 0 a1_0 a1_1 a1_2) else (some (0, 0, 0, t384)))) = some (r1, r2, r3, r4) := by first | (rw [hy381]; with_reducible exact H) | (have H2_ := (Option.bind_some _ _).symm.trans H; rw [hy381]; with_reducible exact H2_) | (have H2_ := (Option.bind_some _ _).symm.trans H; with_reducible exact H2_) | with_reducible exact H | (rw [hy381]; exact H) | exact H
 have Ny381 := Aside0.mk hy381
 clear hy381
 replace H := ob_ H
 obtain ⟨t384, A40, H⟩ := H
 have A4 := Aside0.mk A40
 clear A40
 by_cases c5 : t384 = 0
 ·rw [if_pos c5] at H
  have c5b0 : (t384 == 0) = true := beq_iff_eq.mpr c5
  have c5b1 : (t384 != 0) = false := bne_eq_false_iff_eq.mpr c5
  clear c5
  have H' := Aside0.mk H
  clear H
  go_enter Try.func11, Try.ntmps11
  go_wp2_with (first | ((refine gd_ 4 ?_); refine bx_ 4 #[.int .i64 a1_0, .int .i64 a1_1, .int .i64 a1_2] 25 ?_; intro gb379 hg w6 BK379 hb; have GW379 := bs_ HB hg; have GE379 := bs_ HB hg; replace HB := bt_ HB hb; clear hb hg) | ((refine gd_ 6 ?_); refine bx_ 6 #[.int .i64 0, .int .i64 0, .int .i64 0] 25 ?_; intro gb380 hg w7 BK380 hb; have GW380 := bs_ HB hg; have GE380 := bs_ HB hg; have NB379_380 := bm_ BK379 hg; have NB380_379 := bn_ BK379 hg; replace BK379 := bb_ BK379 hb; replace HB := bt_ HB hb; clear hb hg; have hnb8 := NB379_380.out; have hnc8 := NB380_379.out; obtain ⟨hcz9_0, hcz9_1, hcz9_2, hfz9_0, hfz9_1, hfz9_2⟩ := ch3_ BK379) | ((refine gd_ 15 ?_); refine Kd.R_lit k25 _ 25 ?hg (N := 15) ?hd (xs := ([(⟨a1_0, a1_1, a1_2⟩ : S25)] : List (S25))) (inner := [.int .i64 a1_0, .int .i64 a1_1, .int .i64 a1_2]) (ok := fun _ => True) (okp := fun _ => True) ?hr ?hp (fun _ hk => hk) trivial (Below.refl _ _) (Nat.le_refl _) (by simp) ?_; (case hd => rfl); (case hg => rfl); (case hr => first | (go_simp; done) | (go_simp; rfl)); (case hp => exact (Reps.c3 (show Kd.M k25 _ _ _ (⟨a1_0, a1_1, a1_2⟩ : S25) [.int .i64 a1_0, .int .i64 a1_1, .int .i64 a1_2] from (k25_mkM _ _ _ (⟨a1_0, a1_1, a1_2⟩ : S25) )) (Reps.none _ _))); intro v382 w10 ho11 hb hg_ hnew_; clear hg_ hnew_; (first | rw [← Ny381.out] at ho11 | (simp only [Int.reduceToNat] at ho11; rw [← Ny381.out] at ho11)); have HO383 := Aside0.mk (Kd.R_lower (Kd.R_newB (Kd.R_newB ho11 (g := gb379) (o := .cells #[.int .i64 a1_0, .int .i64 a1_1, .int .i64 a1_2] 25 (0, 0)) (bl_ BK379).out) (g := gb380) (o := .cells #[.int .i64 0, .int .i64 0, .int .i64 0] 25 (0, 0)) (bl_ BK380).out) (below_size (bw_ HB).out)); replace BK379 := bb_ BK379 hb; replace BK380 := bb_ BK380 hb; replace HB := bt_ HB hb; clear hb ho11; obtain ⟨Ao12, co12, eo12⟩ := Kd.R_slice HO383.out; subst eo12) | ((refine gc_ 78 ?_); refine ge_ 16 Try.func78 #[.int .i64 a0, .string a2, .slice Ao12 y381.length co12] ?_; (with_reducible refine (spec_l10Code.calls k a0 a2 _ _ y381 t384 _ ?side1 ?side2 A4.out).mono ?_); (case side1 => exact ca_ (Kd.R_reads' HO383.out).2.2); (case side2 => exact (Kd.R_reads' HO383.out).2.1); rintro e w13 ⟨rfl, hb⟩; refine ⟨_, rfl, ?_⟩; replace HO383 := rb_ HO383 hb; replace BK379 := bb_ BK379 hb; replace BK380 := bb_ BK380 hb; replace HB := bt_ HB hb; (try clear hb)))
  go_loopg [9] k (fun kq v9 w' => ∃ (x9_1 : Int) (x380000_1 : Int) (x380001_1 : Int) (x380002_1 : Int) (x381000_1 : Int) (x381001_1 : Int) (x381002_1 : Int), v9 = .int .i64 x9_1 ∧ Aside0 (spec_FollowSteps.l0 kq a0 a2 x9_1 x380000_1 x380001_1 x380002_1 = some (r1, r2, r3, r4)) ∧ Aside0 (kq ≤ k) ∧ Aside0 (w'.heap[gb379]? = some (.cells #[.int .i64 x380000_1, .int .i64 x380001_1, .int .i64 x380002_1] 25 (0, 0))) ∧ Aside0 (w'.heap[gb380]? = some (.cells #[.int .i64 x381000_1, .int .i64 x381001_1, .int .i64 x381002_1] 25 (0, 0))) ∧ Aside0 (Below w.heap.size w w'))
  case atStart => exact ⟨(0), (a1_0), (a1_1), (a1_2), (0), (0), (0), en_, H', ⟨Nat.le_refl _⟩, bl_ BK379, bl_ BK380, bw_ HB⟩
  case round =>
   clear H'
   try clear c1
   try clear p2
   try clear c3
   try clear c5
   try clear c5b0
   try clear c5b1
   try clear c7
   try clear c8
   try clear c11
   try clear hcz9_0 hcz9_1 hcz9_2
   try clear hfz9_0 hfz9_1 hfz9_2
   obtain ⟨x9_1, x380000_1, x380001_1, x380002_1, x381000_1, x381001_1, x381002_1, rfl, HA, HK1, BK379, BK380, HB⟩ := hrel
   cases gk with
   | zero => exact absurd HA.out (by simp [spec_FollowSteps.l0])
   | succ k1 =>
    have H := HA.out
    clear HA
    simp only [spec_FollowSteps.l0] at H
    by_cases c14 : x9_1 < (a2.size : Int)
    ·rw [if_pos c14] at H
     have c14b0 : decide (x9_1 < (a2.size : Int)) = true := decide_eq_true c14
     clear c14
     by_cases c15 : 0 ≤ x9_1
     ·rw [if_pos c15] at H
      have c15b0 : decide (0 ≤ x9_1) = true := decide_eq_true c15
      clear c15
      replace H := ob_ H
      obtain ⟨⟨t385, t386, t387, t388⟩, A170, H⟩ := H
      have A17 := Aside0.mk A170
      clear A170
      by_cases c18 : t388 = true
      ·subst c18
       have H1 : (spec_FollowSteps.l0 k1 a0 a2 (wrap64 (x9_1 + 1)) t385 t386 t387) = some (r1, r2, r3, r4) := by rw [if_pos rfl] at H; exact H
       clear H
       have H := H1
       clear H1
       have H' := Aside0.mk H
       clear H
       try go_wp2
       replace BK379 := Aside0.mk (blk_drew BK379.out)
       replace BK380 := Aside0.mk (blk_drew BK380.out)
       replace HB := Aside0.mk (below_drew1 HB.out)
       have p16 : 0 ≤ (x9_1 : Int) := od_
       have q16 : x9_1 < (a2.size : Int) := od_
       have hx16 := bt_at a2 x9_1
       replace p16 := eq_true p16
       replace q16 := eq_true q16
       refine start_ (n := 12) (S := fun w' => w'.cell? ⟨gb379, 0, none⟩ = some (.int .i64 x380000_1) ∧ w'.cell? ⟨gb379, 1, none⟩ = some (.int .i64 x380001_1) ∧ w'.cell? ⟨gb379, 2, none⟩ = some (.int .i64 x380002_1)) (ds := []) (bv_ 12 0) (by kernel_rfl) rfl rfl ⟨cz_ BK379 0, cz_ BK379 1, cz_ BK379 2⟩ (fun hHeld => ?_); refine with_tabW spec_FollowSteps.tab7 spec_FollowSteps.bits7 (fun HT_ HW_ => ?_)
       generalize wr.drew = w19 at BK379 BK380 HB hHeld ⊢
       refine px_ HT_ 0 28 1 ?_
       refine px_ HT_ 2 30 5 ?_
       refine px_ HT_ 3 31 13 ?_
       refine ta_ HT_ HW_ 1 (some 29) (bv_ 12 15) hHeld ?_ (hy := by rintro w' ⟨s0, s1, s2⟩; go_simp; with_reducible rfl)
       refine ta_ HT_ HW_ 4 (some 32) (bv_ 12 31) hHeld ?_ (hy := by rintro w' ⟨s0, s1, s2⟩; go_simp; with_reducible rfl)
       refine join_ (σ := Nat) 2 (bv_ 12 1023) (fun s_ => [(33, .tuple #[.agg #[.int .i64 t385, .int .i64 t386, .int .i64 t387], .bool true]), (10, .pointer (some ⟨s_, 0, none⟩)), (27, .tuple #[.agg #[.int .i64 t385, .int .i64 t386, .int .i64 t387], .bool true]), (34, .agg #[.int .i64 t385, .int .i64 t386, .int .i64 t387]), (35, .bool true)]) (fun s_ w' => (w'.cell? ⟨gb379, 0, none⟩ = some (.int .i64 x380000_1) ∧ w'.cell? ⟨gb379, 1, none⟩ = some (.int .i64 x380001_1) ∧ w'.cell? ⟨gb379, 2, none⟩ = some (.int .i64 x380002_1)) ∧ (w'.heap[gb379]? = some (.cells #[.int .i64 x380000_1, .int .i64 x380001_1, .int .i64 x380002_1] 25 (0, 0))) ∧ (w'.heap[gb380]? = some (.cells #[.int .i64 x381000_1, .int .i64 x381001_1, .int .i64 x381002_1] 25 (0, 0))) ∧ (w'.heap[s_]? = some (.cells #[.int .i64 0, .int .i64 0, .int .i64 0] 25 (0, 0))) ∧ (w.heap.size ≤ s_) ∧ (w.heap.size ≤ s_) ∧ (gb379 ≠ s_) ∧ (s_ ≠ gb379) ∧ (gb380 ≠ s_) ∧ (s_ ≠ gb380) ∧ (Below w.heap.size w w')) ?_ ?_
       rotate_left
       ·intro hCont
        refine tw_ HT_ 5 9 (some 33) (some 10) (bv_ 12 63) (bv_ 12 543) (fun K hK => ?_) (fun K hK => ?_)
        ·skip
         refine gs_ Try.func79 #[.int .i64 a0, .agg #[.int .i64 x380000_1, .int .i64 x380001_1, .int .i64 x380002_1], .int .u8 (bt a2 x9_1)] ?_
         with_reducible refine (spec_l10Step.calls k1 a0 x380000_1 x380001_1 x380002_1 (bt a2 x9_1) t385 t386 t387 true _ A17.out).mono ?_
         rintro e w20 ⟨rfl, hb⟩
         refine ⟨_, rfl, ?_⟩
         replace BK379 := bb_ BK379 hb
         replace BK380 := bb_ BK380 hb
         replace HB := bt_ HB hb
         (try clear hb)
         (try clear hb2)
         (try clear hk)
         (try clear hi)
         refine hK.out _ _ ⟨cz_ BK379 0, cz_ BK379 1, cz_ BK379 2⟩ (fun hHeld => ?_)
         clear hK K
         refine nm_ (some 33) ?_
         refine px_ HT_ 6 27 127 ?_
         refine px_ HT_ 7 34 255 ?_
         refine px_ HT_ 8 35 511 ?_
         refine on_ HT_ 9 (some 10) (bv_ 12 1023) (fun K hK => ?_)
         refine bz_ 10 #[.int .i64 0, .int .i64 0, .int .i64 0] 25 ?_
         intro gb389 hg w21 BK389 hb
         have GW389 := bs_ HB hg
         have GE389 := bs_ HB hg
         have NB379_389 := bm_ BK379 hg
         have NB389_379 := bn_ BK379 hg
         have NB380_389 := bm_ BK380 hg
         have NB389_380 := bn_ BK380 hg
         replace BK379 := bb_ BK379 hb
         replace BK380 := bb_ BK380 hb
         replace HB := bt_ HB hb
         clear hb hg
         refine hK.out _ _ ⟨cz_ BK379 0, cz_ BK379 1, cz_ BK379 2⟩ (fun hHeld => ?_)
         clear hK K
         refine nm_ (some 10) ?_
         exact norm_ (by simp only [putAll, Act.put, lstS, lstZ, lstC]) (hCont (gb389) _ ⟨hHeld, (bl_ BK379).out, (bl_ BK380).out, (bl_ BK389).out, GW389.out, GE389.out, NB379_389.out, NB389_379.out, NB380_389.out, NB389_380.out, (bw_ HB).out⟩)
        ·skip
         refine bz_ 10 #[.int .i64 0, .int .i64 0, .int .i64 0] 25 ?_
         intro gb389 hg w20 BK389 hb
         have GW389 := bs_ HB hg
         have GE389 := bs_ HB hg
         have NB379_389 := bm_ BK379 hg
         have NB389_379 := bn_ BK379 hg
         have NB380_389 := bm_ BK380 hg
         have NB389_380 := bn_ BK380 hg
         replace BK379 := bb_ BK379 hb
         replace BK380 := bb_ BK380 hb
         replace HB := bt_ HB hb
         clear hb hg
         refine hK.out _ _ ⟨cz_ BK379 0, cz_ BK379 1, cz_ BK379 2⟩ (fun hHeld => ?_)
         clear hK K
         refine nm_ (some 10) ?_
         refine on_ HT_ 5 (some 33) (bv_ 12 575) (fun K hK => ?_)
         refine gs_ Try.func79 #[.int .i64 a0, .agg #[.int .i64 x380000_1, .int .i64 x380001_1, .int .i64 x380002_1], .int .u8 (bt a2 x9_1)] ?_
         with_reducible refine (spec_l10Step.calls k1 a0 x380000_1 x380001_1 x380002_1 (bt a2 x9_1) t385 t386 t387 true _ A17.out).mono ?_
         rintro e w21 ⟨rfl, hb⟩
         refine ⟨_, rfl, ?_⟩
         replace BK379 := bb_ BK379 hb
         replace BK380 := bb_ BK380 hb
         replace BK389 := bb_ BK389 hb
         replace HB := bt_ HB hb
         (try clear hb)
         (try clear hb2)
         (try clear hk)
         (try clear hi)
         refine hK.out _ _ ⟨cz_ BK379 0, cz_ BK379 1, cz_ BK379 2⟩ (fun hHeld => ?_)
         clear hK K
         refine nm_ (some 33) ?_
         refine px_ HT_ 6 27 639 ?_
         refine px_ HT_ 7 34 767 ?_
         refine px_ HT_ 8 35 1023 ?_
         exact norm_ (by simp only [putAll, Act.put, lstS, lstZ, lstC]) (hCont (gb389) _ ⟨hHeld, (bl_ BK379).out, (bl_ BK380).out, (bl_ BK389).out, GW389.out, GE389.out, NB379_389.out, NB389_379.out, NB380_389.out, NB389_380.out, (bw_ HB).out⟩)
       rintro gb389 w22 ⟨hS_, h0_, h1_, h2_, h3_, h4_, h5_, h6_, h7_, h8_, h9_⟩
       have n0_ : Aside0 (w22.heap[gb379]? = some (.cells #[.int .i64 x380000_1, .int .i64 x380001_1, .int .i64 x380002_1] 25 (0, 0))) := ⟨h0_⟩
       have n1_ : Aside0 (w22.heap[gb380]? = some (.cells #[.int .i64 x381000_1, .int .i64 x381001_1, .int .i64 x381002_1] 25 (0, 0))) := ⟨h1_⟩
       have n2_ : Aside0 (w22.heap[gb389]? = some (.cells #[.int .i64 0, .int .i64 0, .int .i64 0] 25 (0, 0))) := ⟨h2_⟩
       have n3_ : Aside0 (w.heap.size ≤ gb389) := ⟨h3_⟩
       have n4_ : Aside0 (w.heap.size ≤ gb389) := ⟨h4_⟩
       have n5_ : Aside0 (gb379 ≠ gb389) := ⟨h5_⟩
       have n6_ : Aside0 (gb389 ≠ gb379) := ⟨h6_⟩
       have n7_ : Aside0 (gb380 ≠ gb389) := ⟨h7_⟩
       have n8_ : Aside0 (gb389 ≠ gb380) := ⟨h8_⟩
       have n9_ : Aside0 (Below w.heap.size w w22) := ⟨h9_⟩
       clear BK379
       clear BK380
       clear HB
       clear h0_ h1_ h2_ h3_ h4_ h5_ h6_ h7_ h8_ h9_
       have BK379 := n0_
       have BK380 := n1_
       have BK389 := n2_
       have GW389 := n3_
       have GE389 := n4_
       have NB379_389 := n5_
       have NB389_379 := n6_
       have NB380_389 := n7_
       have NB389_380 := n8_
       have HB := n9_
       clear n0_ n1_ n2_ n3_ n4_ n5_ n6_ n7_ n8_ n9_
       have hHeld : w22.cell? ⟨gb379, 0, none⟩ = some (.int .i64 x380000_1) ∧ w22.cell? ⟨gb379, 1, none⟩ = some (.int .i64 x380001_1) ∧ w22.cell? ⟨gb379, 2, none⟩ = some (.int .i64 x380002_1) := hS_
       refine norm_ (a' := ?_) ?_ ?_
       rotate_left
       ·simp only [putAll, Act.put, lstS, lstZ, lstC]
        rfl
       refine on_ HT_ 10 none (bv_ 12 2047) (fun K hK => ?_)
       have hs23 : w22.cell? ⟨gb389, 0, none⟩ = some (.int .i64 0) := (blk_cell BK389.out 0).trans rfl
       have hfs23 := blk_frozen BK389.out 0
       have hns23_0 := NB379_389.out
       have hns23_1 := NB380_389.out
       have hms23_0 := NB389_379.out
       have hms23_1 := NB389_380.out
       have hs24 : w22.cell? ⟨gb389, 1, none⟩ = some (.int .i64 0) := (blk_cell BK389.out 1).trans rfl
       have hfs24 := blk_frozen BK389.out 1
       have hns24_0 := NB379_389.out
       have hns24_1 := NB380_389.out
       have hms24_0 := NB389_379.out
       have hms24_1 := NB389_380.out
       have hs25 : w22.cell? ⟨gb389, 2, none⟩ = some (.int .i64 0) := (blk_cell BK389.out 2).trans rfl
       have hfs25 := blk_frozen BK389.out 2
       have hns25_0 := NB379_389.out
       have hns25_1 := NB380_389.out
       have hms25_0 := NB389_379.out
       have hms25_1 := NB389_380.out
       refine skip_ (w1 := ?_) (by rfl) rfl ?_ ?_
       rotate_left
       ·go_simp
        rfl
       refine hK.out _ _ ⟨(cg_ NB379_389 ((cg_ NB379_389 ((cg_ NB379_389 (hHeld.1)))))), (cg_ NB379_389 ((cg_ NB379_389 ((cg_ NB379_389 (hHeld.2.1)))))), (cg_ NB379_389 ((cg_ NB379_389 ((cg_ NB379_389 (hHeld.2.2))))))⟩ (fun hHeld => ?_)
       clear hK K
       refine px_ HT_ 11 11 4095 ?_
       refine done_ (done_of HT_.out (by kernel_rfl)) ?_
       have hnb26 := NB389_379.out
       have hnc26 := NB379_389.out
       have hnb27 := NB389_380.out
       have hnc27 := NB380_389.out
       obtain ⟨hcz28_0, hcz28_1, hcz28_2, hfz28_0, hfz28_1, hfz28_2⟩ := ch3_ BK389
       have hnb29 := NB379_380.out
       have hnc29 := NB380_379.out
       obtain ⟨hcz30_0, hcz30_1, hcz30_2, hfz30_0, hfz30_1, hfz30_2⟩ := ch3_ BK379
       try go_wp2
       go_roundg k1
       case measure => have := HK1.out; omega
       case rel => exact ⟨(wrap64 (x9_1 + 1)), (t385), (t386), (t387), (x381000_1), (x381001_1), (x381002_1), en_, H', ⟨by have := HK1.out; omega⟩, bp_ BK379, bp_ BK380, bw_ HB⟩
      ·replace c18 := Bool.eq_false_iff.mpr c18
       subst c18
       have H1 : (some (0, 0, 0, 3)) = some (r1, r2, r3, r4) := by rw [if_neg (show ¬ (false = true) by decide)] at H; exact H
       clear H
       have H := H1
       clear H1
       simp only [Option.some.injEq, Prod.mk.injEq] at H
       obtain ⟨rfl, rfl, rfl, rfl⟩ := H
       try go_wp2
       replace BK379 := Aside0.mk (blk_drew BK379.out)
       replace BK380 := Aside0.mk (blk_drew BK380.out)
       replace HB := Aside0.mk (below_drew1 HB.out)
       have p16 : 0 ≤ (x9_1 : Int) := od_
       have q16 : x9_1 < (a2.size : Int) := od_
       have hx16 := bt_at a2 x9_1
       replace p16 := eq_true p16
       replace q16 := eq_true q16
       refine start_ (n := 12) (S := fun w' => w'.cell? ⟨gb379, 0, none⟩ = some (.int .i64 x380000_1) ∧ w'.cell? ⟨gb379, 1, none⟩ = some (.int .i64 x380001_1) ∧ w'.cell? ⟨gb379, 2, none⟩ = some (.int .i64 x380002_1)) (ds := []) (bv_ 12 0) (by kernel_rfl) rfl rfl ⟨cz_ BK379 0, cz_ BK379 1, cz_ BK379 2⟩ (fun hHeld => ?_); refine with_tabW spec_FollowSteps.tab7 spec_FollowSteps.bits7 (fun HT_ HW_ => ?_)
       generalize wr.drew = w31 at BK379 BK380 HB hHeld ⊢
       refine px_ HT_ 0 28 1 ?_
       refine px_ HT_ 2 30 5 ?_
       refine px_ HT_ 3 31 13 ?_
       refine ta_ HT_ HW_ 1 (some 29) (bv_ 12 15) hHeld ?_ (hy := by rintro w' ⟨s0, s1, s2⟩; go_simp; with_reducible rfl)
       refine ta_ HT_ HW_ 4 (some 32) (bv_ 12 31) hHeld ?_ (hy := by rintro w' ⟨s0, s1, s2⟩; go_simp; with_reducible rfl)
       refine join_ (σ := Nat) 2 (bv_ 12 1023) (fun s_ => [(33, .tuple #[.agg #[.int .i64 t385, .int .i64 t386, .int .i64 t387], .bool false]), (10, .pointer (some ⟨s_, 0, none⟩)), (27, .tuple #[.agg #[.int .i64 t385, .int .i64 t386, .int .i64 t387], .bool false]), (34, .agg #[.int .i64 t385, .int .i64 t386, .int .i64 t387]), (35, .bool false)]) (fun s_ w' => (w'.cell? ⟨gb379, 0, none⟩ = some (.int .i64 x380000_1) ∧ w'.cell? ⟨gb379, 1, none⟩ = some (.int .i64 x380001_1) ∧ w'.cell? ⟨gb379, 2, none⟩ = some (.int .i64 x380002_1)) ∧ (w'.heap[gb379]? = some (.cells #[.int .i64 x380000_1, .int .i64 x380001_1, .int .i64 x380002_1] 25 (0, 0))) ∧ (w'.heap[gb380]? = some (.cells #[.int .i64 x381000_1, .int .i64 x381001_1, .int .i64 x381002_1] 25 (0, 0))) ∧ (w'.heap[s_]? = some (.cells #[.int .i64 0, .int .i64 0, .int .i64 0] 25 (0, 0))) ∧ (w.heap.size ≤ s_) ∧ (w.heap.size ≤ s_) ∧ (gb379 ≠ s_) ∧ (s_ ≠ gb379) ∧ (gb380 ≠ s_) ∧ (s_ ≠ gb380) ∧ (Below w.heap.size w w')) ?_ ?_
       rotate_left
       ·intro hCont
        refine tw_ HT_ 5 9 (some 33) (some 10) (bv_ 12 63) (bv_ 12 543) (fun K hK => ?_) (fun K hK => ?_)
        ·skip
         refine gs_ Try.func79 #[.int .i64 a0, .agg #[.int .i64 x380000_1, .int .i64 x380001_1, .int .i64 x380002_1], .int .u8 (bt a2 x9_1)] ?_
         with_reducible refine (spec_l10Step.calls k1 a0 x380000_1 x380001_1 x380002_1 (bt a2 x9_1) t385 t386 t387 false _ A17.out).mono ?_
         rintro e w32 ⟨rfl, hb⟩
         refine ⟨_, rfl, ?_⟩
         replace BK379 := bb_ BK379 hb
         replace BK380 := bb_ BK380 hb
         replace HB := bt_ HB hb
         (try clear hb)
         (try clear hb2)
         (try clear hk)
         (try clear hi)
         refine hK.out _ _ ⟨cz_ BK379 0, cz_ BK379 1, cz_ BK379 2⟩ (fun hHeld => ?_)
         clear hK K
         refine nm_ (some 33) ?_
         refine px_ HT_ 6 27 127 ?_
         refine px_ HT_ 7 34 255 ?_
         refine px_ HT_ 8 35 511 ?_
         refine on_ HT_ 9 (some 10) (bv_ 12 1023) (fun K hK => ?_)
         refine bz_ 10 #[.int .i64 0, .int .i64 0, .int .i64 0] 25 ?_
         intro gb389 hg w33 BK389 hb
         have GW389 := bs_ HB hg
         have GE389 := bs_ HB hg
         have NB379_389 := bm_ BK379 hg
         have NB389_379 := bn_ BK379 hg
         have NB380_389 := bm_ BK380 hg
         have NB389_380 := bn_ BK380 hg
         replace BK379 := bb_ BK379 hb
         replace BK380 := bb_ BK380 hb
         replace HB := bt_ HB hb
         clear hb hg
         refine hK.out _ _ ⟨cz_ BK379 0, cz_ BK379 1, cz_ BK379 2⟩ (fun hHeld => ?_)
         clear hK K
         refine nm_ (some 10) ?_
         exact norm_ (by simp only [putAll, Act.put, lstS, lstZ, lstC]) (hCont (gb389) _ ⟨hHeld, (bl_ BK379).out, (bl_ BK380).out, (bl_ BK389).out, GW389.out, GE389.out, NB379_389.out, NB389_379.out, NB380_389.out, NB389_380.out, (bw_ HB).out⟩)
        ·skip
         refine bz_ 10 #[.int .i64 0, .int .i64 0, .int .i64 0] 25 ?_
         intro gb389 hg w32 BK389 hb
         have GW389 := bs_ HB hg
         have GE389 := bs_ HB hg
         have NB379_389 := bm_ BK379 hg
         have NB389_379 := bn_ BK379 hg
         have NB380_389 := bm_ BK380 hg
         have NB389_380 := bn_ BK380 hg
         replace BK379 := bb_ BK379 hb
         replace BK380 := bb_ BK380 hb
         replace HB := bt_ HB hb
         clear hb hg
         refine hK.out _ _ ⟨cz_ BK379 0, cz_ BK379 1, cz_ BK379 2⟩ (fun hHeld => ?_)
         clear hK K
         refine nm_ (some 10) ?_
         refine on_ HT_ 5 (some 33) (bv_ 12 575) (fun K hK => ?_)
         refine gs_ Try.func79 #[.int .i64 a0, .agg #[.int .i64 x380000_1, .int .i64 x380001_1, .int .i64 x380002_1], .int .u8 (bt a2 x9_1)] ?_
         with_reducible refine (spec_l10Step.calls k1 a0 x380000_1 x380001_1 x380002_1 (bt a2 x9_1) t385 t386 t387 false _ A17.out).mono ?_
         rintro e w33 ⟨rfl, hb⟩
         refine ⟨_, rfl, ?_⟩
         replace BK379 := bb_ BK379 hb
         replace BK380 := bb_ BK380 hb
         replace BK389 := bb_ BK389 hb
         replace HB := bt_ HB hb
         (try clear hb)
         (try clear hb2)
         (try clear hk)
         (try clear hi)
         refine hK.out _ _ ⟨cz_ BK379 0, cz_ BK379 1, cz_ BK379 2⟩ (fun hHeld => ?_)
         clear hK K
         refine nm_ (some 33) ?_
         refine px_ HT_ 6 27 639 ?_
         refine px_ HT_ 7 34 767 ?_
         refine px_ HT_ 8 35 1023 ?_
         exact norm_ (by simp only [putAll, Act.put, lstS, lstZ, lstC]) (hCont (gb389) _ ⟨hHeld, (bl_ BK379).out, (bl_ BK380).out, (bl_ BK389).out, GW389.out, GE389.out, NB379_389.out, NB389_379.out, NB380_389.out, NB389_380.out, (bw_ HB).out⟩)
       rintro gb389 w34 ⟨hS_, h0_, h1_, h2_, h3_, h4_, h5_, h6_, h7_, h8_, h9_⟩
       have n0_ : Aside0 (w34.heap[gb379]? = some (.cells #[.int .i64 x380000_1, .int .i64 x380001_1, .int .i64 x380002_1] 25 (0, 0))) := ⟨h0_⟩
       have n1_ : Aside0 (w34.heap[gb380]? = some (.cells #[.int .i64 x381000_1, .int .i64 x381001_1, .int .i64 x381002_1] 25 (0, 0))) := ⟨h1_⟩
       have n2_ : Aside0 (w34.heap[gb389]? = some (.cells #[.int .i64 0, .int .i64 0, .int .i64 0] 25 (0, 0))) := ⟨h2_⟩
       have n3_ : Aside0 (w.heap.size ≤ gb389) := ⟨h3_⟩
       have n4_ : Aside0 (w.heap.size ≤ gb389) := ⟨h4_⟩
       have n5_ : Aside0 (gb379 ≠ gb389) := ⟨h5_⟩
       have n6_ : Aside0 (gb389 ≠ gb379) := ⟨h6_⟩
       have n7_ : Aside0 (gb380 ≠ gb389) := ⟨h7_⟩
       have n8_ : Aside0 (gb389 ≠ gb380) := ⟨h8_⟩
       have n9_ : Aside0 (Below w.heap.size w w34) := ⟨h9_⟩
       clear BK379
       clear BK380
       clear HB
       clear h0_ h1_ h2_ h3_ h4_ h5_ h6_ h7_ h8_ h9_
       have BK379 := n0_
       have BK380 := n1_
       have BK389 := n2_
       have GW389 := n3_
       have GE389 := n4_
       have NB379_389 := n5_
       have NB389_379 := n6_
       have NB380_389 := n7_
       have NB389_380 := n8_
       have HB := n9_
       clear n0_ n1_ n2_ n3_ n4_ n5_ n6_ n7_ n8_ n9_
       have hHeld : w34.cell? ⟨gb379, 0, none⟩ = some (.int .i64 x380000_1) ∧ w34.cell? ⟨gb379, 1, none⟩ = some (.int .i64 x380001_1) ∧ w34.cell? ⟨gb379, 2, none⟩ = some (.int .i64 x380002_1) := hS_
       refine norm_ (a' := ?_) ?_ ?_
       rotate_left
       ·simp only [putAll, Act.put, lstS, lstZ, lstC]
        rfl
       refine on_ HT_ 10 none (bv_ 12 2047) (fun K hK => ?_)
       have hs35 : w34.cell? ⟨gb389, 0, none⟩ = some (.int .i64 0) := (blk_cell BK389.out 0).trans rfl
       have hfs35 := blk_frozen BK389.out 0
       have hns35_0 := NB379_389.out
       have hns35_1 := NB380_389.out
       have hms35_0 := NB389_379.out
       have hms35_1 := NB389_380.out
       have hs36 : w34.cell? ⟨gb389, 1, none⟩ = some (.int .i64 0) := (blk_cell BK389.out 1).trans rfl
       have hfs36 := blk_frozen BK389.out 1
       have hns36_0 := NB379_389.out
       have hns36_1 := NB380_389.out
       have hms36_0 := NB389_379.out
       have hms36_1 := NB389_380.out
       have hs37 : w34.cell? ⟨gb389, 2, none⟩ = some (.int .i64 0) := (blk_cell BK389.out 2).trans rfl
       have hfs37 := blk_frozen BK389.out 2
       have hns37_0 := NB379_389.out
       have hns37_1 := NB380_389.out
       have hms37_0 := NB389_379.out
       have hms37_1 := NB389_380.out
       refine skip_ (w1 := ?_) (by rfl) rfl ?_ ?_
       rotate_left
       ·go_simp
        rfl
       refine hK.out _ _ ⟨(cg_ NB379_389 ((cg_ NB379_389 ((cg_ NB379_389 (hHeld.1)))))), (cg_ NB379_389 ((cg_ NB379_389 ((cg_ NB379_389 (hHeld.2.1)))))), (cg_ NB379_389 ((cg_ NB379_389 ((cg_ NB379_389 (hHeld.2.2))))))⟩ (fun hHeld => ?_)
       clear hK K
       refine px_ HT_ 11 11 4095 ?_
       refine done_ (done_of HT_.out (by kernel_rfl)) ?_
       have hnb38 := NB380_379.out
       have hnc38 := NB379_380.out
       have hnb39 := NB380_389.out
       have hnc39 := NB389_380.out
       obtain ⟨hcz40_0, hcz40_1, hcz40_2, hfz40_0, hfz40_1, hfz40_2⟩ := ch3_ BK380
       try go_wp2
       refine bodyPost_ret (results_ct rfl _ _ gb380 25 #[.int .i64 0, .int .i64 0, .int .i64 0] (0, 0) _ rfl (bp_ BK380).out Try.underlying25 rfl (by kernel_rfl)) rfl ?_
       exact ⟨es_, (bw_ HB).out⟩
     ·rw [if_neg c15] at H
      exact absurd H (by simp)
    ·rw [if_neg c14] at H
     have c14b0 : decide (x9_1 < (a2.size : Int)) = false := decide_eq_false c14
     clear c14
     simp only [Option.some.injEq, Prod.mk.injEq] at H
     obtain ⟨rfl, rfl, rfl, rfl⟩ := H
     have hnb41 := NB379_380.out
     have hnc41 := NB380_379.out
     obtain ⟨hcz42_0, hcz42_1, hcz42_2, hfz42_0, hfz42_1, hfz42_2⟩ := ch3_ BK379
     obtain ⟨hcz43_0, hcz43_1, hcz43_2, hfz43_0, hfz43_1, hfz43_2⟩ := ch3_ BK380
     go_wp2
     refine bodyPost_ret (results_ct rfl _ _ gb380 25 #[.int .i64 x380000_1, .int .i64 x380001_1, .int .i64 x380002_1] (0, 0) _ rfl (bp_ BK380).out Try.underlying25 rfl (by kernel_rfl)) rfl ?_
     exact ⟨es_, (bw_ HB).out⟩
 ·rw [if_neg c5] at H
  have c5b0 : (t384 == 0) = false := beq_eq_false_iff_ne.mpr c5
  have c5b1 : (t384 != 0) = true := bne_iff_ne.mpr c5
  simp only [Option.some.injEq, Prod.mk.injEq] at H
  obtain ⟨rfl, rfl, rfl, rfl⟩ := H
  go_enter Try.func11, Try.ntmps11
  go_wp2_with (first | ((refine gd_ 4 ?_); refine bx_ 4 #[.int .i64 a1_0, .int .i64 a1_1, .int .i64 a1_2] 25 ?_; intro gb379 hg w44 BK379 hb; have GW379 := bs_ HB hg; have GE379 := bs_ HB hg; replace HB := bt_ HB hb; clear hb hg) | ((refine gd_ 6 ?_); refine bx_ 6 #[.int .i64 0, .int .i64 0, .int .i64 0] 25 ?_; intro gb380 hg w45 BK380 hb; have GW380 := bs_ HB hg; have GE380 := bs_ HB hg; have NB379_380 := bm_ BK379 hg; have NB380_379 := bn_ BK379 hg; replace BK379 := bb_ BK379 hb; replace HB := bt_ HB hb; clear hb hg; have hnb46 := NB379_380.out; have hnc46 := NB380_379.out; obtain ⟨hcz47_0, hcz47_1, hcz47_2, hfz47_0, hfz47_1, hfz47_2⟩ := ch3_ BK379) | ((refine gd_ 15 ?_); refine Kd.R_lit k25 _ 25 ?hg (N := 15) ?hd (xs := ([(⟨a1_0, a1_1, a1_2⟩ : S25)] : List (S25))) (inner := [.int .i64 a1_0, .int .i64 a1_1, .int .i64 a1_2]) (ok := fun _ => True) (okp := fun _ => True) ?hr ?hp (fun _ hk => hk) trivial (Below.refl _ _) (Nat.le_refl _) (by simp) ?_; (case hd => rfl); (case hg => rfl); (case hr => first | (go_simp; done) | (go_simp; rfl)); (case hp => exact (Reps.c3 (show Kd.M k25 _ _ _ (⟨a1_0, a1_1, a1_2⟩ : S25) [.int .i64 a1_0, .int .i64 a1_1, .int .i64 a1_2] from (k25_mkM _ _ _ (⟨a1_0, a1_1, a1_2⟩ : S25) )) (Reps.none _ _))); intro v382 w48 ho49 hb hg_ hnew_; clear hg_ hnew_; (first | rw [← Ny381.out] at ho49 | (simp only [Int.reduceToNat] at ho49; rw [← Ny381.out] at ho49)); have HO383 := Aside0.mk (Kd.R_lower (Kd.R_newB (Kd.R_newB ho49 (g := gb379) (o := .cells #[.int .i64 a1_0, .int .i64 a1_1, .int .i64 a1_2] 25 (0, 0)) (bl_ BK379).out) (g := gb380) (o := .cells #[.int .i64 0, .int .i64 0, .int .i64 0] 25 (0, 0)) (bl_ BK380).out) (below_size (bw_ HB).out)); replace BK379 := bb_ BK379 hb; replace BK380 := bb_ BK380 hb; replace HB := bt_ HB hb; clear hb ho49; obtain ⟨Ao50, co50, eo50⟩ := Kd.R_slice HO383.out; subst eo50) | ((refine gc_ 78 ?_); refine ge_ 16 Try.func78 #[.int .i64 a0, .string a2, .slice Ao50 y381.length co50] ?_; (with_reducible refine (spec_l10Code.calls k a0 a2 _ _ y381 t384 _ ?side1 ?side2 A4.out).mono ?_); (case side1 => exact ca_ (Kd.R_reads' HO383.out).2.2); (case side2 => exact (Kd.R_reads' HO383.out).2.1); rintro e w51 ⟨rfl, hb⟩; refine ⟨_, rfl, ?_⟩; replace HO383 := rb_ HO383 hb; replace BK379 := bb_ BK379 hb; replace BK380 := bb_ BK380 hb; replace HB := bt_ HB hb; (try clear hb); obtain ⟨hcz52_0, hcz52_1, hcz52_2, hfz52_0, hfz52_1, hfz52_2⟩ := ch3_ BK380))
  refine bodyPost_ret (results_ct rfl _ _ gb380 25 #[.int .i64 0, .int .i64 0, .int .i64 0] (0, 0) _ rfl (bp_ BK380).out Try.underlying25 rfl (by kernel_rfl)) rfl ?_
  exact ⟨es_, (bw_ HB).out⟩
attribute [local go_sem high] eqA25
/-! ### impl_toward: function 116 -/
def impl_toward.l0 : Nat → Int → Int → Int → Int → Int → Int → Int → Int → Option (Int)
 | 0, _, _, _, _, _, _, _, _ => none
 | k + 1, x0, x7, x395000, x395001, x395002, x396000, x396001, x396002 => if x7 ≤ x0 then ((impl_neighbour.f k x0 x395000 x395001 x395002 x7).bind fun bt396 => (if bt396.2.2.2 = true then (if (bt396.1 == x396000 && (bt396.2.1 == x396001 && (bt396.2.2.1 == x396002))) = true then (some x7) else (impl_toward.l0 k x0 (wrap64 (x7 + 1)) x395000 x395001 x395002 x396000 x396001 x396002)) else (impl_toward.l0 k x0 (wrap64 (x7 + 1)) x395000 x395001 x395002 x396000 x396001 x396002))) else (some 0)
def impl_toward.f (k : Nat) (a0 : Int) (a1_0 : Int) (a1_1 : Int) (a1_2 : Int) (a2_0 : Int) (a2_1 : Int) (a2_2 : Int) : Option (Int) := impl_toward.l0 k a0 1 a1_0 a1_1 a1_2 a2_0 a2_1 a2_2
theorem impl_toward.calls (k : Nat) (a0 : Int) (a1_0 : Int) (a1_1 : Int) (a1_2 : Int) (a2_0 : Int) (a2_1 : Int) (a2_2 : Int) (r : Int) (w : World) (h : impl_toward.f k a0 a1_0 a1_1 a1_2 a2_0 a2_1 a2_2 = some r) :
  Calls Try.prog 116 #[.int .i64 a0, .agg #[.int .i64 a1_0, .int .i64 a1_1, .int .i64 a1_2], .agg #[.int .i64 a2_0, .int .i64 a2_1, .int .i64 a2_2]] w fun e w' => e = .returned (.int .i64 r) ∧ Below w.heap.size w w' := by
 have hu25 := Try.underlying25
 have HB := Aside0.mk (Below.refl w.heap.size w)
 have H : (impl_toward.l0 k a0 1 a1_0 a1_1 a1_2 a2_0 a2_1 a2_2) = some r := h
 clear h
 have H' := Aside0.mk H
 clear H
 go_enter Try.func116, Try.ntmps116
 go_wp2_with (first | ((refine gd_ 4 ?_); refine bx_ 4 #[.int .i64 a1_0, .int .i64 a1_1, .int .i64 a1_2] 25 ?_; intro gb394 hg w4 BK394 hb; have GW394 := bs_ HB hg; have GE394 := bs_ HB hg; replace HB := bt_ HB hb; clear hb hg) | ((refine gd_ 5 ?_); refine bx_ 5 #[.int .i64 a2_0, .int .i64 a2_1, .int .i64 a2_2] 25 ?_; intro gb395 hg w5 BK395 hb; have GW395 := bs_ HB hg; have GE395 := bs_ HB hg; have NB394_395 := bm_ BK394 hg; have NB395_394 := bn_ BK394 hg; replace BK394 := bb_ BK394 hb; replace HB := bt_ HB hb; clear hb hg))
 go_loopg [7] k (fun kq v7 w' => ∃ (x7_1 : Int), v7 = .int .i64 x7_1 ∧ Aside0 (impl_toward.l0 kq a0 x7_1 a1_0 a1_1 a1_2 a2_0 a2_1 a2_2 = some r) ∧ Aside0 (kq ≤ k) ∧ Aside0 (w'.heap[gb394]? = some (.cells #[.int .i64 a1_0, .int .i64 a1_1, .int .i64 a1_2] 25 (0, 0))) ∧ Aside0 (w'.heap[gb395]? = some (.cells #[.int .i64 a2_0, .int .i64 a2_1, .int .i64 a2_2] 25 (0, 0))) ∧ Aside0 (Below w.heap.size w w'))
 case atStart => exact ⟨(1), en_, H', ⟨Nat.le_refl _⟩, bl_ BK394, bl_ BK395, bw_ HB⟩
 case round =>
  clear H'
  try clear c1
  try clear p2
  obtain ⟨x7_1, rfl, HA, HK1, BK394, BK395, HB⟩ := hrel
  cases gk with
  | zero => exact absurd HA.out (by simp [impl_toward.l0])
  | succ k1 =>
   have H := HA.out
   clear HA
   simp only [impl_toward.l0] at H
   by_cases c6 : x7_1 ≤ a0
   ·rw [if_pos c6] at H
    have c6b0 : decide (x7_1 ≤ a0) = true := decide_eq_true c6
    clear c6
    replace H := ob_ H
    obtain ⟨⟨t396, t397, t398, t399⟩, A70, H⟩ := H
    have A7 := Aside0.mk A70
    clear A70
    by_cases c8 : t399 = true
    ·subst c8
     have H1 : (if (t396 == a2_0 && (t397 == a2_1 && (t398 == a2_2))) = true then (some x7_1) else (impl_toward.l0 k1 a0 (wrap64 (x7_1 + 1)) a1_0 a1_1 a1_2 a2_0 a2_1 a2_2)) = some r := by rw [if_pos rfl] at H; exact H
     clear H
     have H := H1
     clear H1
     by_cases c9 : (t396 == a2_0 && (t397 == a2_1 && (t398 == a2_2))) = true
     ·rw [if_pos c9] at H
      have c9b0 : (t396 == a2_0 && (t397 == a2_1 && (t398 == a2_2))) = true := c9
      (try (have c9b1 : decide (t396 = a2_0 && (t397 == a2_1 && (t398 == a2_2))) = true := by simpa using c9))
      (try (have c9b2 : (t396 == a2_0 && (t397 == a2_1 && (t398 == a2_2))) = true := by simpa using c9))
      clear c9
      obtain rfl := si_ H
      have hnb10 := NB394_395.out
      have hnc10 := NB395_394.out
      obtain ⟨hcz11_0, hcz11_1, hcz11_2, hfz11_0, hfz11_1, hfz11_2⟩ := ch3_ BK394
      go_wp2_with (first | ((refine gc_ 150 ?_); refine ge_ 19 Try.func150 #[.int .i64 a0, .agg #[.int .i64 a1_0, .int .i64 a1_1, .int .i64 a1_2], .int .i64 x7_1] ?_; (with_reducible refine (impl_neighbour.calls k1 a0 a1_0 a1_1 a1_2 x7_1 t396 t397 t398 true _ A7.out).mono ?_); rintro e w12 ⟨rfl, hb⟩; refine ⟨_, rfl, ?_⟩; replace BK394 := bb_ BK394 hb; replace BK395 := bb_ BK395 hb; replace HB := bt_ HB hb; (try clear hb)) | ((refine gd_ 8 ?_); refine bx_ 8 #[.int .i64 0, .int .i64 0, .int .i64 0] 25 ?_; intro gb400 hg w13 BK400 hb; have GW400 := bs_ HB hg; have GE400 := bs_ HB hg; have NB394_400 := bm_ BK394 hg; have NB400_394 := bn_ BK394 hg; have NB395_400 := bm_ BK395 hg; have NB400_395 := bn_ BK395 hg; replace BK394 := bb_ BK394 hb; replace BK395 := bb_ BK395 hb; replace HB := bt_ HB hb; clear hb hg; have hnb14 := NB400_394.out; have hnc14 := NB394_400.out; have hnb15 := NB400_395.out; have hnc15 := NB395_400.out; obtain ⟨hcz16_0, hcz16_1, hcz16_2, hfz16_0, hfz16_1, hfz16_2⟩ := ch3_ BK400; obtain ⟨hcz17_0, hcz17_1, hcz17_2, hfz17_0, hfz17_1, hfz17_2⟩ := ch3_ BK395))
      go_ret
      exact ⟨es_, (bw_ HB).out⟩
     ·rw [if_neg c9] at H
      have c9b0 : (t396 == a2_0 && (t397 == a2_1 && (t398 == a2_2))) = false := by simpa using c9
      (try (have c9b1 : decide (t396 = a2_0 && (t397 == a2_1 && (t398 == a2_2))) = false := by simpa using c9))
      (try (have c9b2 : (t396 == a2_0 && (t397 == a2_1 && (t398 == a2_2))) = false := by simpa using c9))
      (try (have c9b3 : ¬ (t396 = a2_0 && (t397 == a2_1 && (t398 == a2_2))) := by simpa using c9))
      clear c9
      have H' := Aside0.mk H
      clear H
      have hnb18 := NB394_395.out
      have hnc18 := NB395_394.out
      obtain ⟨hcz19_0, hcz19_1, hcz19_2, hfz19_0, hfz19_1, hfz19_2⟩ := ch3_ BK394
      go_wp2_with (first | ((refine gc_ 150 ?_); refine ge_ 19 Try.func150 #[.int .i64 a0, .agg #[.int .i64 a1_0, .int .i64 a1_1, .int .i64 a1_2], .int .i64 x7_1] ?_; (with_reducible refine (impl_neighbour.calls k1 a0 a1_0 a1_1 a1_2 x7_1 t396 t397 t398 true _ A7.out).mono ?_); rintro e w20 ⟨rfl, hb⟩; refine ⟨_, rfl, ?_⟩; replace BK394 := bb_ BK394 hb; replace BK395 := bb_ BK395 hb; replace HB := bt_ HB hb; (try clear hb)) | ((refine gd_ 8 ?_); refine bx_ 8 #[.int .i64 0, .int .i64 0, .int .i64 0] 25 ?_; intro gb400 hg w21 BK400 hb; have GW400 := bs_ HB hg; have GE400 := bs_ HB hg; have NB394_400 := bm_ BK394 hg; have NB400_394 := bn_ BK394 hg; have NB395_400 := bm_ BK395 hg; have NB400_395 := bn_ BK395 hg; replace BK394 := bb_ BK394 hb; replace BK395 := bb_ BK395 hb; replace HB := bt_ HB hb; clear hb hg; have hnb22 := NB400_394.out; have hnc22 := NB394_400.out; have hnb23 := NB400_395.out; have hnc23 := NB395_400.out; obtain ⟨hcz24_0, hcz24_1, hcz24_2, hfz24_0, hfz24_1, hfz24_2⟩ := ch3_ BK400; obtain ⟨hcz25_0, hcz25_1, hcz25_2, hfz25_0, hfz25_1, hfz25_2⟩ := ch3_ BK395))
      go_roundg k1
      case measure => have := HK1.out; omega
      case rel => exact ⟨(wrap64 (x7_1 + 1)), en_, H', ⟨by have := HK1.out; omega⟩, fl_ BK394 NB394_400, fl_ BK395 NB395_400, bw_ HB⟩
    ·replace c8 := Bool.eq_false_iff.mpr c8
     subst c8
     have H1 : (impl_toward.l0 k1 a0 (wrap64 (x7_1 + 1)) a1_0 a1_1 a1_2 a2_0 a2_1 a2_2) = some r := by rw [if_neg (show ¬ (false = true) by decide)] at H; exact H
     clear H
     have H := H1
     clear H1
     have H' := Aside0.mk H
     clear H
     have hnb26 := NB394_395.out
     have hnc26 := NB395_394.out
     obtain ⟨hcz27_0, hcz27_1, hcz27_2, hfz27_0, hfz27_1, hfz27_2⟩ := ch3_ BK394
     go_wp2_with (first | ((refine gc_ 150 ?_); refine ge_ 19 Try.func150 #[.int .i64 a0, .agg #[.int .i64 a1_0, .int .i64 a1_1, .int .i64 a1_2], .int .i64 x7_1] ?_; (with_reducible refine (impl_neighbour.calls k1 a0 a1_0 a1_1 a1_2 x7_1 t396 t397 t398 false _ A7.out).mono ?_); rintro e w28 ⟨rfl, hb⟩; refine ⟨_, rfl, ?_⟩; replace BK394 := bb_ BK394 hb; replace BK395 := bb_ BK395 hb; replace HB := bt_ HB hb; (try clear hb)) | ((refine gd_ 8 ?_); refine bx_ 8 #[.int .i64 0, .int .i64 0, .int .i64 0] 25 ?_; intro gb400 hg w29 BK400 hb; have GW400 := bs_ HB hg; have GE400 := bs_ HB hg; have NB394_400 := bm_ BK394 hg; have NB400_394 := bn_ BK394 hg; have NB395_400 := bm_ BK395 hg; have NB400_395 := bn_ BK395 hg; replace BK394 := bb_ BK394 hb; replace BK395 := bb_ BK395 hb; replace HB := bt_ HB hb; clear hb hg; have hnb30 := NB400_394.out; have hnc30 := NB394_400.out; have hnb31 := NB400_395.out; have hnc31 := NB395_400.out; obtain ⟨hcz32_0, hcz32_1, hcz32_2, hfz32_0, hfz32_1, hfz32_2⟩ := ch3_ BK400))
     go_roundg k1
     case measure => have := HK1.out; omega
     case rel => exact ⟨(wrap64 (x7_1 + 1)), en_, H', ⟨by have := HK1.out; omega⟩, fl_ BK394 NB394_400, fl_ BK395 NB395_400, bw_ HB⟩
   ·rw [if_neg c6] at H
    have c6b0 : decide (x7_1 ≤ a0) = false := decide_eq_false c6
    clear c6
    obtain rfl := si_ H
    go_wp2
    go_ret
    exact ⟨es_, (bw_ HB).out⟩
end Go.Proofs.Ytgoeelhiffbjlaa.QR
