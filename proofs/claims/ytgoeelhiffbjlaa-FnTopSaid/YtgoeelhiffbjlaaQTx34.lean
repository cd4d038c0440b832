import Derived.Test.YtgoeelhiffbjlaaQTx10
import Derived.Test.YtgoeelhiffbjlaaQTx28
import Derived.Test.YtgoeelhiffbjlaaQTx32
namespace Go.Proofs.Ytgoeelhiffbjlaa.QT
set_option maxHeartbeats 8000000
set_option maxRecDepth 100000
open Go.RowKit Go.Proofs.YtgoeelhiffbjlaaW.PrintWords Go.Proofs.YtgoeelhiffbjlaaW.PrintLast Go.Proofs.YtgoeelhiffbjlaaW.PrintMore
attribute [local go_sem] isSome_setCell max2_int min2_int max_two min_two max_three min_three max_four min_four
set_option linter.unusedVariables false
set_option linter.unusedSimpArgs false

/-! ### spec_FollowSteps: function 11 -/
def spec_FollowSteps.l0 : Nat → Int → ByteArray → Int → Int → Int → Int → Option (Int × Int × Int × Int)
 | 0, _, _, _, _, _, _ => none
 | k + 1, x0, x2, x9, x229000, x229001, x229002 => if x9 < (x2.size : Int) then (if 0 ≤ x9 then ((spec_l10Step.f k x0 x229000 x229001 x229002 (bt x2 x9)).bind fun bt234 => (if bt234.2.2.2 = true then (spec_FollowSteps.l0 k x0 x2 (wrap64 (x9 + 1)) bt234.1 bt234.2.1 bt234.2.2.1) else (some (0, 0, 0, 3)))) else (none)) else (some (x229000, x229001, x229002, 0))
def spec_FollowSteps.f (k : Nat) (a0 : Int) (a1_0 : Int) (a1_1 : Int) (a1_2 : Int) (a2 : ByteArray) : Option (Int × Int × Int × Int) := (spec_l10Code.f k a0 a2 (([(⟨a1_0, a1_1, a1_2⟩ : S25)] : List (S25)))).bind fun t233 => (if t233 = 0 then (spec_FollowSteps.l0 k a0 a2 0 a1_0 a1_1 a1_2) else (some (0, 0, 0, t233)))
def spec_FollowSteps.T7 : Bool × List (List Nat × List Nat) := (true, [([], []), ([], []), ([], []), ([], []), ([2, 3], [2, 3]), ([0, 1, 4], [0, 1, 4]), ([5], [5]), ([6], [6]), ([6], [6]), ([], []), ([9, 7, 5, 0, 1, 2, 3, 4, 5, 6, 7, 9], [7, 9]), ([8, 10, 0, 1, 2, 3, 4, 5, 6, 7, 8, 9, 10], [8])])
def spec_FollowSteps.B7 : List Nat := [0, 0, 0, 0, 12, 31, 63, 127, 127, 0, 767, 2047]
theorem spec_FollowSteps.tab7 : rtab .any (opsOf Try.f11 7) = spec_FollowSteps.T7 := by kernel_rfl
theorem spec_FollowSteps.bits7 : waitsOk spec_FollowSteps.T7.2 spec_FollowSteps.B7 = true := by kernel_rfl
theorem spec_FollowSteps.calls (k : Nat) (a0 : Int) (a1_0 : Int) (a1_1 : Int) (a1_2 : Int) (a2 : ByteArray) (r1 : Int) (r2 : Int) (r3 : Int) (r4 : Int) (w : World) (h : spec_FollowSteps.f k a0 a1_0 a1_1 a1_2 a2 = some (r1, r2, r3, r4)) :
  Calls Try.prog 11 #[.int .i64 a0, .agg #[.int .i64 a1_0, .int .i64 a1_1, .int .i64 a1_2], .string a2] w fun e w' => e = .returned (.tuple #[.agg #[.int .i64 r1, .int .i64 r2, .int .i64 r3], .int .i64 r4]) ∧ Below w.heap.size w w' := by
 have hu25 := Try.underlying25
 have HB := Aside0.mk (Below.refl w.heap.size w)
 have H : ((spec_l10Code.f k a0 a2 (([(⟨a1_0, a1_1, a1_2⟩ : S25)] : List (S25)))).bind fun t233 => (if t233 = 0 then (spec_FollowSteps.l0 k a0 a2 0 a1_0 a1_1 a1_2) else (some (0, 0, 0, t233)))) = some (r1, r2, r3, r4) := h
 clear h
 obtain ⟨y230, hy230⟩ : ∃ y_ : List (S25), y_ = (([(⟨a1_0, a1_1, a1_2⟩ : S25)] : List (S25))) := ⟨_, rfl⟩
 replace H : ((spec_l10Code.f k a0 a2 y230).bind fun t233 => (if t233 = 0 then (spec_FollowSteps.l0 k a0 a2 0 a1_0 a1_1 a1_2) else (some (0, 0, 0, t233)))) = some (r1, r2, r3, r4) := by first | (rw [hy230]; with_reducible exact H) | (have H2_ := (Option.bind_some _ _).symm.trans H; rw [hy230]; with_reducible exact H2_) | (have H2_ := (Option.bind_some _ _).symm.trans H; with_reducible exact H2_) | with_reducible exact H | (rw [hy230]; exact H) | exact H
 have Ny230 := Aside0.mk hy230
 clear hy230
 replace H := ob_ H
 obtain ⟨t233, A40, H⟩ := H
 have A4 := Aside0.mk A40
 clear A40
 by_cases c5 : t233 = 0
 ·rw [if_pos c5] at H
  have c5b0 : (t233 == 0) = true := beq_iff_eq.mpr c5
  have c5b1 : (t233 != 0) = false := bne_eq_false_iff_eq.mpr c5
  clear c5
  have H' := Aside0.mk H
  clear H
  go_enter Try.func11, Try.ntmps11
  go_wp2_with (first | ((refine gd_ 4 ?_); refine bx_ 4 #[.int .i64 a1_0, .int .i64 a1_1, .int .i64 a1_2] 25 ?_; intro gb228 hg w6 BK228 hb; have GW228 := bs_ HB hg; have GE228 := bs_ HB hg; replace HB := bt_ HB hb; clear hb hg) | ((refine gd_ 6 ?_); refine bx_ 6 #[.int .i64 0, .int .i64 0, .int .i64 0] 25 ?_; intro gb229 hg w7 BK229 hb; have GW229 := bs_ HB hg; have GE229 := bs_ HB hg; have NB228_229 := bm_ BK228 hg; have NB229_228 := bn_ BK228 hg; replace BK228 := bb_ BK228 hb; replace HB := bt_ HB hb; clear hb hg; have hnb8 := NB228_229.out; have hnc8 := NB229_228.out; obtain ⟨hcz9_0, hcz9_1, hcz9_2, hfz9_0, hfz9_1, hfz9_2⟩ := ch3_ BK228) | ((refine gd_ 15 ?_); refine Kd.R_lit k25 _ 25 ?hg (N := 15) ?hd (xs := ([(⟨a1_0, a1_1, a1_2⟩ : S25)] : List (S25))) (inner := [.int .i64 a1_0, .int .i64 a1_1, .int .i64 a1_2]) (ok := fun _ => True) (okp := fun _ => True) ?hr ?hp (fun _ hk => hk) trivial (Below.refl _ _) (Nat.le_refl _) (by simp) ?_; (case hd => rfl); (case hg => rfl); (case hr => first | (go_simp; done) | (go_simp; rfl)); (case hp => exact (Reps.c3 (show Kd.M k25 _ _ _ (⟨a1_0, a1_1, a1_2⟩ : S25) [.int .i64 a1_0, .int .i64 a1_1, .int .i64 a1_2] from (k25_mkM _ _ _ (⟨a1_0, a1_1, a1_2⟩ : S25) )) (Reps.none _ _))); intro v231 w10 ho11 hb hg_ hnew_; clear hg_ hnew_; (first | rw [← Ny230.out] at ho11 | (simp only [Int.reduceToNat] at ho11; rw [← Ny230.out] at ho11)); have HO232 := Aside0.mk (Kd.R_lower (Kd.R_newB (Kd.R_newB ho11 (g := gb228) (o := .cells #[.int .i64 a1_0, .int .i64 a1_1, .int .i64 a1_2] 25 (0, 0)) (bl_ BK228).out) (g := gb229) (o := .cells #[.int .i64 0, .int .i64 0, .int .i64 0] 25 (0, 0)) (bl_ BK229).out) (below_size (bw_ HB).out)); replace BK228 := bb_ BK228 hb; replace BK229 := bb_ BK229 hb; replace HB := bt_ HB hb; clear hb ho11; obtain ⟨Ao12, co12, eo12⟩ := Kd.R_slice HO232.out; subst eo12) | ((refine gc_ 78 ?_); refine ge_ 16 Try.func78 #[.int .i64 a0, .string a2, .slice Ao12 y230.length co12] ?_; (with_reducible refine (spec_l10Code.calls k a0 a2 _ _ y230 t233 _ ?side1 ?side2 A4.out).mono ?_); (case side1 => exact ca_ (Kd.R_reads' HO232.out).2.2); (case side2 => exact (Kd.R_reads' HO232.out).2.1); rintro e w13 ⟨rfl, hb⟩; refine ⟨_, rfl, ?_⟩; replace HO232 := rb_ HO232 hb; replace BK228 := bb_ BK228 hb; replace BK229 := bb_ BK229 hb; replace HB := bt_ HB hb; (try clear hb)))
  go_loopg [9] k (fun kq v9 w' => ∃ (x9_1 : Int) (x229000_1 : Int) (x229001_1 : Int) (x229002_1 : Int) (x230000_1 : Int) (x230001_1 : Int) (x230002_1 : Int), v9 = .int .i64 x9_1 ∧ Aside0 (spec_FollowSteps.l0 kq a0 a2 x9_1 x229000_1 x229001_1 x229002_1 = some (r1, r2, r3, r4)) ∧ Aside0 (kq ≤ k) ∧ Aside0 (w'.heap[gb228]? = some (.cells #[.int .i64 x229000_1, .int .i64 x229001_1, .int .i64 x229002_1] 25 (0, 0))) ∧ Aside0 (w'.heap[gb229]? = some (.cells #[.int .i64 x230000_1, .int .i64 x230001_1, .int .i64 x230002_1] 25 (0, 0))) ∧ Aside0 (Below w.heap.size w w'))
  case atStart => exact ⟨(0), (a1_0), (a1_1), (a1_2), (0), (0), (0), en_, H', ⟨Nat.le_refl _⟩, bl_ BK228, bl_ BK229, bw_ HB⟩
  case round =>
   clear H'
   try clear c1
   try clear p2
   try clear c3
   try clear c5
   try clear c5b0
   try clear c5b1
   try clear c7
   try clear c8
   try clear c11
   try clear hcz9_0 hcz9_1 hcz9_2
   try clear hfz9_0 hfz9_1 hfz9_2
   obtain ⟨x9_1, x229000_1, x229001_1, x229002_1, x230000_1, x230001_1, x230002_1, rfl, HA, HK1, BK228, BK229, HB⟩ := hrel
   cases gk with
   | zero => exact absurd HA.out (by simp [spec_FollowSteps.l0])
   | succ k1 =>
    have H := HA.out
    clear HA
    simp only [spec_FollowSteps.l0] at H
    by_cases c14 : x9_1 < (a2.size : Int)
    ·rw [if_pos c14] at H
     have c14b0 : decide (x9_1 < (a2.size : Int)) = true := decide_eq_true c14
     clear c14
     by_cases c15 : 0 ≤ x9_1
     ·rw [if_pos c15] at H
      have c15b0 : decide (0 ≤ x9_1) = true := decide_eq_true c15
      clear c15
      replace H := ob_ H
      obtain ⟨⟨t234, t235, t236, t237⟩, A170, H⟩ := H
      have A17 := Aside0.mk A170
      clear A170
      by_cases c18 : t237 = true
      ·subst c18
       have H1 : (spec_FollowSteps.l0 k1 a0 a2 (wrap64 (x9_1 + 1)) t234 t235 t236) = some (r1, r2, r3, r4) := by rw [if_pos rfl] at H; exact H
       clear H
       have H := H1
       clear H1
       have H' := Aside0.mk H
       clear H
       try go_wp2
       replace BK228 := Aside0.mk (blk_drew BK228.out)
       replace BK229 := Aside0.mk (blk_drew BK229.out)
       replace HB := Aside0.mk (below_drew1 HB.out)
       have p16 : 0 ≤ (x9_1 : Int) := od_
       have q16 : x9_1 < (a2.size : Int) := od_
       have hx16 := bt_at a2 x9_1
       replace p16 := eq_true p16
       replace q16 := eq_true q16
       refine start_ (n := 12) (S := fun w' => w'.cell? ⟨gb228, 0, none⟩ = some (.int .i64 x229000_1) ∧ w'.cell? ⟨gb228, 1, none⟩ = some (.int .i64 x229001_1) ∧ w'.cell? ⟨gb228, 2, none⟩ = some (.int .i64 x229002_1)) (ds := []) (bv_ 12 0) (by kernel_rfl) rfl rfl ⟨cz_ BK228 0, cz_ BK228 1, cz_ BK228 2⟩ (fun hHeld => ?_); refine with_tabW spec_FollowSteps.tab7 spec_FollowSteps.bits7 (fun HT_ HW_ => ?_)
       generalize wr.drew = w19 at BK228 BK229 HB hHeld ⊢
       refine px_ HT_ 0 28 1 ?_
       refine px_ HT_ 2 30 5 ?_
       refine px_ HT_ 3 31 13 ?_
       refine ta_ HT_ HW_ 1 (some 29) (bv_ 12 15) hHeld ?_ (hy := by rintro w' ⟨s0, s1, s2⟩; go_simp; with_reducible rfl)
       refine ta_ HT_ HW_ 4 (some 32) (bv_ 12 31) hHeld ?_ (hy := by rintro w' ⟨s0, s1, s2⟩; go_simp; with_reducible rfl)
       refine join_ (σ := Nat) 2 (bv_ 12 1023) (fun s_ => [(33, .tuple #[.agg #[.int .i64 t234, .int .i64 t235, .int .i64 t236], .bool true]), (10, .pointer (some ⟨s_, 0, none⟩)), (27, .tuple #[.agg #[.int .i64 t234, .int .i64 t235, .int .i64 t236], .bool true]), (34, .agg #[.int .i64 t234, .int .i64 t235, .int .i64 t236]), (35, .bool true)]) (fun s_ w' => (w'.cell? ⟨gb228, 0, none⟩ = some (.int .i64 x229000_1) ∧ w'.cell? ⟨gb228, 1, none⟩ = some (.int .i64 x229001_1) ∧ w'.cell? ⟨gb228, 2, none⟩ = some (.int .i64 x229002_1)) ∧ (w'.heap[gb228]? = some (.cells #[.int .i64 x229000_1, .int .i64 x229001_1, .int .i64 x229002_1] 25 (0, 0))) ∧ (w'.heap[gb229]? = some (.cells #[.int .i64 x230000_1, .int .i64 x230001_1, .int .i64 x230002_1] 25 (0, 0))) ∧ (w'.heap[s_]? = some (.cells #[.int .i64 0, .int .i64 0, .int .i64 0] 25 (0, 0))) ∧ (w.heap.size ≤ s_) ∧ (w.heap.size ≤ s_) ∧ (gb228 ≠ s_) ∧ (s_ ≠ gb228) ∧ (gb229 ≠ s_) ∧ (s_ ≠ gb229) ∧ (Below w.heap.size w w')) ?_ ?_
       rotate_left
       ·intro hCont
        refine tw_ HT_ 5 9 (some 33) (some 10) (bv_ 12 63) (bv_ 12 543) (fun K hK => ?_) (fun K hK => ?_)
        ·skip
         refine gs_ Try.func79 #[.int .i64 a0, .agg #[.int .i64 x229000_1, .int .i64 x229001_1, .int .i64 x229002_1], .int .u8 (bt a2 x9_1)] ?_
         with_reducible refine (spec_l10Step.calls k1 a0 x229000_1 x229001_1 x229002_1 (bt a2 x9_1) t234 t235 t236 true _ A17.out).mono ?_
         rintro e w20 ⟨rfl, hb⟩
         refine ⟨_, rfl, ?_⟩
         replace BK228 := bb_ BK228 hb
         replace BK229 := bb_ BK229 hb
         replace HB := bt_ HB hb
         (try clear hb)
         (try clear hb2)
         (try clear hk)
         (try clear hi)
         refine hK.out _ _ ⟨cz_ BK228 0, cz_ BK228 1, cz_ BK228 2⟩ (fun hHeld => ?_)
         clear hK K
         refine nm_ (some 33) ?_
         refine px_ HT_ 6 27 127 ?_
         refine px_ HT_ 7 34 255 ?_
         refine px_ HT_ 8 35 511 ?_
         refine on_ HT_ 9 (some 10) (bv_ 12 1023) (fun K hK => ?_)
         refine bz_ 10 #[.int .i64 0, .int .i64 0, .int .i64 0] 25 ?_
         intro gb238 hg w21 BK238 hb
         have GW238 := bs_ HB hg
         have GE238 := bs_ HB hg
         have NB228_238 := bm_ BK228 hg
         have NB238_228 := bn_ BK228 hg
         have NB229_238 := bm_ BK229 hg
         have NB238_229 := bn_ BK229 hg
         replace BK228 := bb_ BK228 hb
         replace BK229 := bb_ BK229 hb
         replace HB := bt_ HB hb
         clear hb hg
         refine hK.out _ _ ⟨cz_ BK228 0, cz_ BK228 1, cz_ BK228 2⟩ (fun hHeld => ?_)
         clear hK K
         refine nm_ (some 10) ?_
         exact norm_ (by simp only [putAll, Act.put, lstS, lstZ, lstC]) (hCont (gb238) _ ⟨hHeld, (bl_ BK228).out, (bl_ BK229).out, (bl_ BK238).out, GW238.out, GE238.out, NB228_238.out, NB238_228.out, NB229_238.out, NB238_229.out, (bw_ HB).out⟩)
        ·skip
         refine bz_ 10 #[.int .i64 0, .int .i64 0, .int .i64 0] 25 ?_
         intro gb238 hg w20 BK238 hb
         have GW238 := bs_ HB hg
         have GE238 := bs_ HB hg
         have NB228_238 := bm_ BK228 hg
         have NB238_228 := bn_ BK228 hg
         have NB229_238 := bm_ BK229 hg
         have NB238_229 := bn_ BK229 hg
         replace BK228 := bb_ BK228 hb
         replace BK229 := bb_ BK229 hb
         replace HB := bt_ HB hb
         clear hb hg
         refine hK.out _ _ ⟨cz_ BK228 0, cz_ BK228 1, cz_ BK228 2⟩ (fun hHeld => ?_)
         clear hK K
         refine nm_ (some 10) ?_
         refine on_ HT_ 5 (some 33) (bv_ 12 575) (fun K hK => ?_)
         refine gs_ Try.func79 #[.int .i64 a0, .agg #[.int .i64 x229000_1, .int .i64 x229001_1, .int .i64 x229002_1], .int .u8 (bt a2 x9_1)] ?_
         with_reducible refine (spec_l10Step.calls k1 a0 x229000_1 x229001_1 x229002_1 (bt a2 x9_1) t234 t235 t236 true _ A17.out).mono ?_
         rintro e w21 ⟨rfl, hb⟩
         refine ⟨_, rfl, ?_⟩
         replace BK228 := bb_ BK228 hb
         replace BK229 := bb_ BK229 hb
         replace BK238 := bb_ BK238 hb
         replace HB := bt_ HB hb
         (try clear hb)
         (try clear hb2)
         (try clear hk)
         (try clear hi)
         refine hK.out _ _ ⟨cz_ BK228 0, cz_ BK228 1, cz_ BK228 2⟩ (fun hHeld => ?_)
         clear hK K
         refine nm_ (some 33) ?_
         refine px_ HT_ 6 27 639 ?_
         refine px_ HT_ 7 34 767 ?_
         refine px_ HT_ 8 35 1023 ?_
         exact norm_ (by simp only [putAll, Act.put, lstS, lstZ, lstC]) (hCont (gb238) _ ⟨hHeld, (bl_ BK228).out, (bl_ BK229).out, (bl_ BK238).out, GW238.out, GE238.out, NB228_238.out, NB238_228.out, NB229_238.out, NB238_229.out, (bw_ HB).out⟩)
       rintro gb238 w22 ⟨hS_, h0_, h1_, h2_, h3_, h4_, h5_, h6_, h7_, h8_, h9_⟩
       have n0_ : Aside0 (w22.heap[gb228]? = some (.cells #[.int .i64 x229000_1, .int .i64 x229001_1, .int .i64 x229002_1] 25 (0, 0))) := ⟨h0_⟩
       have n1_ : Aside0 (w22.heap[gb229]? = some (.cells #[.int .i64 x230000_1, .int .i64 x230001_1, .int .i64 x230002_1] 25 (0, 0))) := ⟨h1_⟩
       have n2_ : Aside0 (w22.heap[gb238]? = some (.cells #[.int .i64 0, .int .i64 0, .int .i64 0] 25 (0, 0))) := ⟨h2_⟩
       have n3_ : Aside0 (w.heap.size ≤ gb238) := ⟨h3_⟩
       have n4_ : Aside0 (w.heap.size ≤ gb238) := ⟨h4_⟩
       have n5_ : Aside0 (gb228 ≠ gb238) := ⟨h5_⟩
       have n6_ : Aside0 (gb238 ≠ gb228) := ⟨h6_⟩
       have n7_ : Aside0 (gb229 ≠ gb238) := ⟨h7_⟩
       have n8_ : Aside0 (gb238 ≠ gb229) := ⟨h8_⟩
       have n9_ : Aside0 (Below w.heap.size w w22) := ⟨h9_⟩
       clear BK228
       clear BK229
       clear HB
       clear h0_ h1_ h2_ h3_ h4_ h5_ h6_ h7_ h8_ h9_
       have BK228 := n0_
       have BK229 := n1_
       have BK238 := n2_
       have GW238 := n3_
       have GE238 := n4_
       have NB228_238 := n5_
       have NB238_228 := n6_
       have NB229_238 := n7_
       have NB238_229 := n8_
       have HB := n9_
       clear n0_ n1_ n2_ n3_ n4_ n5_ n6_ n7_ n8_ n9_
       have hHeld : w22.cell? ⟨gb228, 0, none⟩ = some (.int .i64 x229000_1) ∧ w22.cell? ⟨gb228, 1, none⟩ = some (.int .i64 x229001_1) ∧ w22.cell? ⟨gb228, 2, none⟩ = some (.int .i64 x229002_1) := hS_
       refine norm_ (a' := ?_) ?_ ?_
       rotate_left
       ·simp only [putAll, Act.put, lstS, lstZ, lstC]
        rfl
       refine on_ HT_ 10 none (bv_ 12 2047) (fun K hK => ?_)
       have hs23 : w22.cell? ⟨gb238, 0, none⟩ = some (.int .i64 0) := (blk_cell BK238.out 0).trans rfl
       have hfs23 := blk_frozen BK238.out 0
       have hns23_0 := NB228_238.out
       have hns23_1 := NB229_238.out
       have hms23_0 := NB238_228.out
       have hms23_1 := NB238_229.out
       have hs24 : w22.cell? ⟨gb238, 1, none⟩ = some (.int .i64 0) := (blk_cell BK238.out 1).trans rfl
       have hfs24 := blk_frozen BK238.out 1
       have hns24_0 := NB228_238.out
       have hns24_1 := NB229_238.out
       have hms24_0 := NB238_228.out
       have hms24_1 := NB238_229.out
       have hs25 : w22.cell? ⟨gb238, 2, none⟩ = some (.int .i64 0) := (blk_cell BK238.out 2).trans rfl
       have hfs25 := blk_frozen BK238.out 2
       have hns25_0 := NB228_238.out
       have hns25_1 := NB229_238.out
       have hms25_0 := NB238_228.out
       have hms25_1 := NB238_229.out
       refine skip_ (w1 := ?_) (by rfl) rfl ?_ ?_
       rotate_left
       ·go_simp
        rfl
       refine hK.out _ _ ⟨(cg_ NB228_238 ((cg_ NB228_238 ((cg_ NB228_238 (hHeld.1)))))), (cg_ NB228_238 ((cg_ NB228_238 ((cg_ NB228_238 (hHeld.2.1)))))), (cg_ NB228_238 ((cg_ NB228_238 ((cg_ NB228_238 (hHeld.2.2))))))⟩ (fun hHeld => ?_)
       clear hK K
       refine px_ HT_ 11 11 4095 ?_
       refine done_ (done_of HT_.out (by kernel_rfl)) ?_
       have hnb26 := NB238_228.out
       have hnc26 := NB228_238.out
       have hnb27 := NB238_229.out
       have hnc27 := NB229_238.out
       obtain ⟨hcz28_0, hcz28_1, hcz28_2, hfz28_0, hfz28_1, hfz28_2⟩ := ch3_ BK238
       have hnb29 := NB228_229.out
       have hnc29 := NB229_228.out
       obtain ⟨hcz30_0, hcz30_1, hcz30_2, hfz30_0, hfz30_1, hfz30_2⟩ := ch3_ BK228
       try go_wp2
       go_roundg k1
       case measure => have := HK1.out; omega
       case rel => exact ⟨(wrap64 (x9_1 + 1)), (t234), (t235), (t236), (x230000_1), (x230001_1), (x230002_1), en_, H', ⟨by have := HK1.out; omega⟩, bp_ BK228, bp_ BK229, bw_ HB⟩
      ·replace c18 := Bool.eq_false_iff.mpr c18
       subst c18
       have H1 : (some (0, 0, 0, 3)) = some (r1, r2, r3, r4) := by rw [if_neg (show ¬ (false = true) by decide)] at H; exact H
       clear H
       have H := H1
       clear H1
       simp only [Option.some.injEq, Prod.mk.injEq] at H
       obtain ⟨rfl, rfl, rfl, rfl⟩ := H
       try go_wp2
       replace BK228 := Aside0.mk (blk_drew BK228.out)
       replace BK229 := Aside0.mk (blk_drew BK229.out)
       replace HB := Aside0.mk (below_drew1 HB.out)
       have p16 : 0 ≤ (x9_1 : Int) := od_
       have q16 : x9_1 < (a2.size : Int) := od_
       have hx16 := bt_at a2 x9_1
       replace p16 := eq_true p16
       replace q16 := eq_true q16
       refine start_ (n := 12) (S := fun w' => w'.cell? ⟨gb228, 0, none⟩ = some (.int .i64 x229000_1) ∧ w'.cell? ⟨gb228, 1, none⟩ = some (.int .i64 x229001_1) ∧ w'.cell? ⟨gb228, 2, none⟩ = some (.int .i64 x229002_1)) (ds := []) (bv_ 12 0) (by kernel_rfl) rfl rfl ⟨cz_ BK228 0, cz_ BK228 1, cz_ BK228 2⟩ (fun hHeld => ?_); refine with_tabW spec_FollowSteps.tab7 spec_FollowSteps.bits7 (fun HT_ HW_ => ?_)
       generalize wr.drew = w31 at BK228 BK229 HB hHeld ⊢
       refine px_ HT_ 0 28 1 ?_
       refine px_ HT_ 2 30 5 ?_
       refine px_ HT_ 3 31 13 ?_
       refine ta_ HT_ HW_ 1 (some 29) (bv_ 12 15) hHeld ?_ (hy := by rintro w' ⟨s0, s1, s2⟩; go_simp; with_reducible rfl)
       refine ta_ HT_ HW_ 4 (some 32) (bv_ 12 31) hHeld ?_ (hy := by rintro w' ⟨s0, s1, s2⟩; go_simp; with_reducible rfl)
       refine join_ (σ := Nat) 2 (bv_ 12 1023) (fun s_ => [(33, .tuple #[.agg #[.int .i64 t234, .int .i64 t235, .int .i64 t236], .bool false]), (10, .pointer (some ⟨s_, 0, none⟩)), (27, .tuple #[.agg #[.int .i64 t234, .int .i64 t235, .int .i64 t236], .bool false]), (34, .agg #[.int .i64 t234, .int .i64 t235, .int .i64 t236]), (35, .bool false)]) (fun s_ w' => (w'.cell? ⟨gb228, 0, none⟩ = some (.int .i64 x229000_1) ∧ w'.cell? ⟨gb228, 1, none⟩ = some (.int .i64 x229001_1) ∧ w'.cell? ⟨gb228, 2, none⟩ = some (.int .i64 x229002_1)) ∧ (w'.heap[gb228]? = some (.cells #[.int .i64 x229000_1, .int .i64 x229001_1, .int .i64 x229002_1] 25 (0, 0))) ∧ (w'.heap[gb229]? = some (.cells #[.int .i64 x230000_1, .int .i64 x230001_1, .int .i64 x230002_1] 25 (0, 0))) ∧ (w'.heap[s_]? = some (.cells #[.int .i64 0, .int .i64 0, .int .i64 0] 25 (0, 0))) ∧ (w.heap.size ≤ s_) ∧ (w.heap.size ≤ s_) ∧ (gb228 ≠ s_) ∧ (s_ ≠ gb228) ∧ (gb229 ≠ s_) ∧ (s_ ≠ gb229) ∧ (Below w.heap.size w w')) ?_ ?_
       rotate_left
       ·intro hCont
        refine tw_ HT_ 5 9 (some 33) (some 10) (bv_ 12 63) (bv_ 12 543) (fun K hK => ?_) (fun K hK => ?_)
        ·skip
         refine gs_ Try.func79 #[.int .i64 a0, .agg #[.int .i64 x229000_1, .int .i64 x229001_1, .int .i64 x229002_1], .int .u8 (bt a2 x9_1)] ?_
         with_reducible refine (spec_l10Step.calls k1 a0 x229000_1 x229001_1 x229002_1 (bt a2 x9_1) t234 t235 t236 false _ A17.out).mono ?_
         rintro e w32 ⟨rfl, hb⟩
         refine ⟨_, rfl, ?_⟩
         replace BK228 := bb_ BK228 hb
         replace BK229 := bb_ BK229 hb
         replace HB := bt_ HB hb
         (try clear hb)
         (try clear hb2)
         (try clear hk)
         (try clear hi)
         refine hK.out _ _ ⟨cz_ BK228 0, cz_ BK228 1, cz_ BK228 2⟩ (fun hHeld => ?_)
         clear hK K
         refine nm_ (some 33) ?_
         refine px_ HT_ 6 27 127 ?_
         refine px_ HT_ 7 34 255 ?_
         refine px_ HT_ 8 35 511 ?_
         refine on_ HT_ 9 (some 10) (bv_ 12 1023) (fun K hK => ?_)
         refine bz_ 10 #[.int .i64 0, .int .i64 0, .int .i64 0] 25 ?_
         intro gb238 hg w33 BK238 hb
         have GW238 := bs_ HB hg
         have GE238 := bs_ HB hg
         have NB228_238 := bm_ BK228 hg
         have NB238_228 := bn_ BK228 hg
         have NB229_238 := bm_ BK229 hg
         have NB238_229 := bn_ BK229 hg
         replace BK228 := bb_ BK228 hb
         replace BK229 := bb_ BK229 hb
         replace HB := bt_ HB hb
         clear hb hg
         refine hK.out _ _ ⟨cz_ BK228 0, cz_ BK228 1, cz_ BK228 2⟩ (fun hHeld => ?_)
         clear hK K
         refine nm_ (some 10) ?_
         exact norm_ (by simp only [putAll, Act.put, lstS, lstZ, lstC]) (hCont (gb238) _ ⟨hHeld, (bl_ BK228).out, (bl_ BK229).out, (bl_ BK238).out, GW238.out, GE238.out, NB228_238.out, NB238_228.out, NB229_238.out, NB238_229.out, (bw_ HB).out⟩)
        ·skip
         refine bz_ 10 #[.int .i64 0, .int .i64 0, .int .i64 0] 25 ?_
         intro gb238 hg w32 BK238 hb
         have GW238 := bs_ HB hg
         have GE238 := bs_ HB hg
         have NB228_238 := bm_ BK228 hg
         have NB238_228 := bn_ BK228 hg
         have NB229_238 := bm_ BK229 hg
         have NB238_229 := bn_ BK229 hg
         replace BK228 := bb_ BK228 hb
         replace BK229 := bb_ BK229 hb
         replace HB := bt_ HB hb
         clear hb hg
         refine hK.out _ _ ⟨cz_ BK228 0, cz_ BK228 1, cz_ BK228 2⟩ (fun hHeld => ?_)
         clear hK K
         refine nm_ (some 10) ?_
         refine on_ HT_ 5 (some 33) (bv_ 12 575) (fun K hK => ?_)
         refine gs_ Try.func79 #[.int .i64 a0, .agg #[.int .i64 x229000_1, .int .i64 x229001_1, .int .i64 x229002_1], .int .u8 (bt a2 x9_1)] ?_
         with_reducible refine (spec_l10Step.calls k1 a0 x229000_1 x229001_1 x229002_1 (bt a2 x9_1) t234 t235 t236 false _ A17.out).mono ?_
         rintro e w33 ⟨rfl, hb⟩
         refine ⟨_, rfl, ?_⟩
         replace BK228 := bb_ BK228 hb
         replace BK229 := bb_ BK229 hb
         replace BK238 := bb_ BK238 hb
         replace HB := bt_ HB hb
         (try clear hb)
         (try clear hb2)
         (try clear hk)
         (try clear hi)
         refine hK.out _ _ ⟨cz_ BK228 0, cz_ BK228 1, cz_ BK228 2⟩ (fun hHeld => ?_)
         clear hK K
         refine nm_ (some 33) ?_
         refine px_ HT_ 6 27 639 ?_
         refine px_ HT_ 7 34 767 ?_
         refine px_ HT_ 8 35 1023 ?_
         exact norm_ (by simp only [putAll, Act.put, lstS, lstZ, lstC]) (hCont (gb238) _ ⟨hHeld, (bl_ BK228).out, (bl_ BK229).out, (bl_ BK238).out, GW238.out, GE238.out, NB228_238.out, NB238_228.out, NB229_238.out, NB238_229.out, (bw_ HB).out⟩)
       rintro gb238 w34 ⟨hS_, h0_, h1_, h2_, h3_, h4_, h5_, h6_, h7_, h8_, h9_⟩
       have n0_ : Aside0 (w34.heap[gb228]? = some (.cells #[.int .i64 x229000_1, .int .i64 x229001_1, .int .i64 x229002_1] 25 (0, 0))) := ⟨h0_⟩
       have n1_ : Aside0 (w34.heap[gb229]? = some (.cells #[.int .i64 x230000_1, .int .i64 x230001_1, .int .i64 x230002_1] 25 (0, 0))) := ⟨h1_⟩
       have n2_ : Aside0 (w34.heap[gb238]? = some (.cells #[.int .i64 0, .int .i64 0, .int .i64 0] 25 (0, 0))) := ⟨h2_⟩
       have n3_ : Aside0 (w.heap.size ≤ gb238) := ⟨h3_⟩
       have n4_ : Aside0 (w.heap.size ≤ gb238) := ⟨h4_⟩
       have n5_ : Aside0 (gb228 ≠ gb238) := ⟨h5_⟩
       have n6_ : Aside0 (gb238 ≠ gb228) := ⟨h6_⟩
       have n7_ : Aside0 (gb229 ≠ gb238) := ⟨h7_⟩
       have n8_ : Aside0 (gb238 ≠ gb229) := ⟨h8_⟩
       have n9_ : Aside0 (Below w.heap.size w w34) := ⟨h9_⟩
       clear BK228
       clear BK229
       clear HB
       clear h0_ h1_ h2_ h3_ h4_ h5_ h6_ h7_ h8_ h9_
       have BK228 := n0_
       have BK229 := n1_
       have BK238 := n2_
       have GW238 := n3_
       have GE238 := n4_
       have NB228_238 := n5_
       have NB238_228 := n6_
       have NB229_238 := n7_
       have NB238_229 := n8_
       have HB := n9_
       clear n0_ n1_ n2_ n3_ n4_ n5_ n6_ n7_ n8_ n9_
       have hHeld : w34.cell? ⟨gb228, 0, none⟩ = some (.int .i64 x229000_1) ∧ w34.cell? ⟨gb228, 1, none⟩ = some (.int .i64 x229001_1) ∧ w34.cell? ⟨gb228, 2, none⟩ = some (.int .i64 x229002_1) := hS_
       refine norm_ (a' := ?_) ?_ ?_
       rotate_left
       ·simp only [putAll, Act.put, lstS, lstZ, lstC]
        rfl
       refine on_ HT_ 10 none (bv_ 12 2047) (fun K hK => ?_)
       have hs35 : w34.cell? ⟨gb238, 0, none⟩ = some (.int .i64 0) := (blk_cell BK238.out 0).trans rfl
       have hfs35 := blk_frozen BK238.out 0
       have hns35_0 := NB228_238.out
       have hns35_1 := NB229_238.out
       have hms35_0 := NB238_228.out
       have hms35_1 := NB238_229.out
       have hs36 : w34.cell? ⟨gb238, 1, none⟩ = some (.int .i64 0) := (blk_cell BK238.out 1).trans rfl
       have hfs36 := blk_frozen BK238.out 1
       have hns36_0 := NB228_238.out
       have hns36_1 := NB229_238.out
       have hms36_0 := NB238_228.out
       have hms36_1 := NB238_229.out
       have hs37 : w34.cell? ⟨gb238, 2, none⟩ = some (.int .i64 0) := (blk_cell BK238.out 2).trans rfl
       have hfs37 := blk_frozen BK238.out 2
       have hns37_0 := NB228_238.out
       have hns37_1 := NB229_238.out
       have hms37_0 := NB238_228.out
       have hms37_1 := NB238_229.out
       refine skip_ (w1 := ?_) (by rfl) rfl ?_ ?_
       rotate_left
       ·go_simp
        rfl
       refine hK.out _ _ ⟨(cg_ NB228_238 ((cg_ NB228_238 ((cg_ NB228_238 (hHeld.1)))))), (cg_ NB228_238 ((cg_ NB228_238 ((cg_ NB228_238 (hHeld.2.1)))))), (cg_ NB228_238 ((cg_ NB228_238 ((cg_ NB228_238 (hHeld.2.2))))))⟩ (fun hHeld => ?_)
       clear hK K
       refine px_ HT_ 11 11 4095 ?_
       refine done_ (done_of HT_.out (by kernel_rfl)) ?_
       have hnb38 := NB229_228.out
       have hnc38 := NB228_229.out
       have hnb39 := NB229_238.out
       have hnc39 := NB238_229.out
       obtain ⟨hcz40_0, hcz40_1, hcz40_2, hfz40_0, hfz40_1, hfz40_2⟩ := ch3_ BK229
       try go_wp2
       refine bodyPost_ret (results_ct rfl _ _ gb229 25 #[.int .i64 0, .int .i64 0, .int .i64 0] (0, 0) _ rfl (bp_ BK229).out Try.underlying25 rfl (by kernel_rfl)) rfl ?_
       exact ⟨es_, (bw_ HB).out⟩
     ·rw [if_neg c15] at H
      exact absurd H (by simp)
    ·rw [if_neg c14] at H
     have c14b0 : decide (x9_1 < (a2.size : Int)) = false := decide_eq_false c14
     clear c14
     simp only [Option.some.injEq, Prod.mk.injEq] at H
     obtain ⟨rfl, rfl, rfl, rfl⟩ := H
     have hnb41 := NB228_229.out
     have hnc41 := NB229_228.out
     obtain ⟨hcz42_0, hcz42_1, hcz42_2, hfz42_0, hfz42_1, hfz42_2⟩ := ch3_ BK228
     obtain ⟨hcz43_0, hcz43_1, hcz43_2, hfz43_0, hfz43_1, hfz43_2⟩ := ch3_ BK229
     go_wp2
     refine bodyPost_ret (results_ct rfl _ _ gb229 25 #[.int .i64 x229000_1, .int .i64 x229001_1, .int .i64 x229002_1] (0, 0) _ rfl (bp_ BK229).out Try.underlying25 rfl (by kernel_rfl)) rfl ?_
     exact ⟨es_, (bw_ HB).out⟩
 ·rw [if_neg c5] at H
  have c5b0 : (t233 == 0) = false := beq_eq_false_iff_ne.mpr c5
  have c5b1 : (t233 != 0) = true := bne_iff_ne.mpr c5
  simp only [Option.some.injEq, Prod.mk.injEq] at H
  obtain ⟨rfl, rfl, rfl, rfl⟩ := H
  go_enter Try.func11, Try.ntmps11
  go_wp2_with (first | ((refine gd_ 4 ?_); refine bx_ 4 #[.int .i64 a1_0, .int .i64 a1_1, .int .i64 a1_2] 25 ?_; intro gb228 hg w44 BK228 hb; have GW228 := bs_ HB hg; have GE228 := bs_ HB hg; replace HB := bt_ HB hb; clear hb hg) | ((refine gd_ 6 ?_); refine bx_ 6 #[.int .i64 0, .int .i64 0, .int .i64 0] 25 ?_; intro gb229 hg w45 BK229 hb; have GW229 := bs_ HB hg; have GE229 := bs_ HB hg; have NB228_229 := bm_ BK228 hg; have NB229_228 := bn_ BK228 hg; replace BK228 := bb_ BK228 hb; replace HB := bt_ HB hb; clear hb hg; have hnb46 := NB228_229.out; have hnc46 := NB229_228.out; obtain ⟨hcz47_0, hcz47_1, hcz47_2, hfz47_0, hfz47_1, hfz47_2⟩ := ch3_ BK228) | ((refine gd_ 15 ?_); refine Kd.R_lit k25 _ 25 ?hg (N := 15) ?hd (xs := ([(⟨a1_0, a1_1, a1_2⟩ : S25)] : List (S25))) (inner := [.int .i64 a1_0, .int .i64 a1_1, .int .i64 a1_2]) (ok := fun _ => True) (okp := fun _ => True) ?hr ?hp (fun _ hk => hk) trivial (Below.refl _ _) (Nat.le_refl _) (by simp) ?_; (case hd => rfl); (case hg => rfl); (case hr => first | (go_simp; done) | (go_simp; rfl)); (case hp => exact (Reps.c3 (show Kd.M k25 _ _ _ (⟨a1_0, a1_1, a1_2⟩ : S25) [.int .i64 a1_0, .int .i64 a1_1, .int .i64 a1_2] from (k25_mkM _ _ _ (⟨a1_0, a1_1, a1_2⟩ : S25) )) (Reps.none _ _))); intro v231 w48 ho49 hb hg_ hnew_; clear hg_ hnew_; (first | rw [← Ny230.out] at ho49 | (simp only [Int.reduceToNat] at ho49; rw [← Ny230.out] at ho49)); have HO232 := Aside0.mk (Kd.R_lower (Kd.R_newB (Kd.R_newB ho49 (g := gb228) (o := .cells #[.int .i64 a1_0, .int .i64 a1_1, .int .i64 a1_2] 25 (0, 0)) (bl_ BK228).out) (g := gb229) (o := .cells #[.int .i64 0, .int .i64 0, .int .i64 0] 25 (0, 0)) (bl_ BK229).out) (below_size (bw_ HB).out)); replace BK228 := bb_ BK228 hb; replace BK229 := bb_ BK229 hb; replace HB := bt_ HB hb; clear hb ho49; obtain ⟨Ao50, co50, eo50⟩ := Kd.R_slice HO232.out; subst eo50) | ((refine gc_ 78 ?_); refine ge_ 16 Try.func78 #[.int .i64 a0, .string a2, .slice Ao50 y230.length co50] ?_; (with_reducible refine (spec_l10Code.calls k a0 a2 _ _ y230 t233 _ ?side1 ?side2 A4.out).mono ?_); (case side1 => exact ca_ (Kd.R_reads' HO232.out).2.2); (case side2 => exact (Kd.R_reads' HO232.out).2.1); rintro e w51 ⟨rfl, hb⟩; refine ⟨_, rfl, ?_⟩; replace HO232 := rb_ HO232 hb; replace BK228 := bb_ BK228 hb; replace BK229 := bb_ BK229 hb; replace HB := bt_ HB hb; (try clear hb); obtain ⟨hcz52_0, hcz52_1, hcz52_2, hfz52_0, hfz52_1, hfz52_2⟩ := ch3_ BK229))
  refine bodyPost_ret (results_ct rfl _ _ gb229 25 #[.int .i64 0, .int .i64 0, .int .i64 0] (0, 0) _ rfl (bp_ BK229).out Try.underlying25 rfl (by kernel_rfl)) rfl ?_
  exact ⟨es_, (bw_ HB).out⟩
/-! ### impl_areBalls: function 86 -/
def impl_areBalls.l0 : Nat → Int → List (S25) → Int → Int → Option (Bool)
 | 0, _, _, _, _ => none
 | k + 1, x0, x7, x8, x9 => if x9 < x8 then (if 0 ≤ x9 then (if x9 < (x7.length : Int) then ((impl_IsBall.f k x0 ((rd_T25 x7 x9).f0) ((rd_T25 x7 x9).f1) ((rd_T25 x7 x9).f2)).bind fun t241 => (if t241 = true then (impl_areBalls.l0 k x0 x7 x8 (wrap64 (x9 + 1))) else (some false))) else (none)) else (none)) else ((impl_isPrime.f x0).bind fun t242 => (some t242))
def impl_areBalls.f (k : Nat) (a0 : Int) (l1 : List (S25)) : Option (Bool) := impl_areBalls.l0 k a0 l1 (l1.length : Int) 0
theorem impl_areBalls.calls (k : Nat) (a0 : Int) (A1 : Option Addr) (c1 : Nat) (l1 : List (S25)) (r : Bool) (w : World) (hr1 : Kd.C k25 w A1 l1.length l1) (hc1 : l1.length ≤ c1) (h : impl_areBalls.f k a0 l1 = some r) :
  Calls Try.prog 86 #[.int .i64 a0, .slice A1 l1.length c1] w fun e w' => e = .returned (.bool r) ∧ Below w.heap.size w w' := by
 have hu25 := Try.underlying25
 have HR1 := Aside0.mk hr1
 have HC1 := Aside0.mk hc1
 clear hr1 hc1
 have HB := Aside0.mk (Below.refl w.heap.size w)
 have H : (impl_areBalls.l0 k a0 l1 (l1.length : Int) 0) = some r := h
 clear h
 have H' := Aside0.mk H
 clear H
 go_enter Try.func86, Try.ntmps86
 go_wp2
 go_loopg [9] k (fun kq v9 w' => ∃ (x9_1 : Int), v9 = .int .i64 x9_1 ∧ Aside0 (impl_areBalls.l0 kq a0 l1 (l1.length : Int) x9_1 = some r) ∧ Aside0 (kq ≤ k) ∧ Aside0 (Below w.heap.size w w'))
 case atStart => exact ⟨(0), en_, H', ⟨Nat.le_refl _⟩, bw_ HB⟩
 case round =>
  clear H'
  try clear c1
  try clear p2
  obtain ⟨x9_1, rfl, HA, HK1, HB⟩ := hrel
  cases gk with
  | zero => exact absurd HA.out (by simp [impl_areBalls.l0])
  | succ k1 =>
   have H := HA.out
   clear HA
   simp only [impl_areBalls.l0] at H
   by_cases c3 : x9_1 < (l1.length : Int)
   ·rw [if_pos c3] at H
    have c3b0 : decide (x9_1 < (l1.length : Int)) = true := decide_eq_true c3
    clear c3
    by_cases c4 : 0 ≤ x9_1
    ·rw [if_pos c4] at H
     have c4b0 : decide (0 ≤ x9_1) = true := decide_eq_true c4
     clear c4
     by_cases c5 : x9_1 < (l1.length : Int)
     ·rw [if_pos c5] at H
      have c5b0 : decide (x9_1 < (l1.length : Int)) = true := decide_eq_true c5
      clear c5
      replace H := ob_ H
      obtain ⟨t241, A60, H⟩ := H
      have A6 := Aside0.mk A60
      clear A60
      by_cases c7 : t241 = true
      ·subst c7
       have H1 : (impl_areBalls.l0 k1 a0 l1 (l1.length : Int) (wrap64 (x9_1 + 1))) = some r := by rw [if_pos rfl] at H; exact H
       clear H
       have H := H1
       clear H1
       have H' := Aside0.mk H
       clear H
       have p239 : 0 ≤ (x9_1 : Int) := od_
       have q239 : x9_1 < (l1.length : Int) := od_
       obtain ⟨ad239, e239, hx239_0, hx239_1, hx239_2⟩ := at_T25 HR1.out x9_1 p239 q239
       cases e239
       replace hx239_0 := clTr HB.out hx239_0
       replace hx239_1 := clTr HB.out hx239_1
       replace hx239_2 := clTr HB.out hx239_2
       replace p239 := eq_true p239
       replace q239 := eq_true q239
       go_wp2_with (first | ((refine gd_ 6 ?_); refine bx_ 6 #[.int .i64 0, .int .i64 0, .int .i64 0] 25 ?_; intro gb240 hg w8 BK240 hb; have GW240 := bs_ HB hg; have GE240 := bs_ HB hg; replace HB := bt_ HB hb; clear hb hg; obtain ⟨hcz9_0, hcz9_1, hcz9_2, hfz9_0, hfz9_1, hfz9_2⟩ := ch3_ BK240) | ((refine gc_ 94 ?_); refine ge_ 15 Try.func94 #[.int .i64 a0, .agg #[.int .i64 ((rd_T25 l1 x9_1).f0), .int .i64 ((rd_T25 l1 x9_1).f1), .int .i64 ((rd_T25 l1 x9_1).f2)]] ?_; (with_reducible refine (impl_IsBall.calls k1 a0 ((rd_T25 l1 x9_1).f0) ((rd_T25 l1 x9_1).f1) ((rd_T25 l1 x9_1).f2) true _ A6.out).mono ?_); rintro e w10 ⟨rfl, hb⟩; refine ⟨_, rfl, ?_⟩; replace BK240 := Aside0.mk (blk_below (g := gb240) (o := .cells #[.int .i64 ((rd_T25 l1 x9_1).f0), .int .i64 ((rd_T25 l1 x9_1).f1), .int .i64 ((rd_T25 l1 x9_1).f2)] 25 (0, 0)) (bp_ BK240).out hb); replace HB := bt_ HB hb; (try clear hb)))
       go_roundg k1
       case measure => have := HK1.out; omega
       case rel => exact ⟨(wrap64 (x9_1 + 1)), en_, H', ⟨by have := HK1.out; omega⟩, bw_ HB⟩
      ·replace c7 := Bool.eq_false_iff.mpr c7
       subst c7
       have H1 : (some false) = some r := by rw [if_neg (show ¬ (false = true) by decide)] at H; exact H
       clear H
       have H := H1
       clear H1
       obtain rfl := si_ H
       have p239 : 0 ≤ (x9_1 : Int) := od_
       have q239 : x9_1 < (l1.length : Int) := od_
       obtain ⟨ad239, e239, hx239_0, hx239_1, hx239_2⟩ := at_T25 HR1.out x9_1 p239 q239
       cases e239
       replace hx239_0 := clTr HB.out hx239_0
       replace hx239_1 := clTr HB.out hx239_1
       replace hx239_2 := clTr HB.out hx239_2
       replace p239 := eq_true p239
       replace q239 := eq_true q239
       go_wp2_with (first | ((refine gd_ 6 ?_); refine bx_ 6 #[.int .i64 0, .int .i64 0, .int .i64 0] 25 ?_; intro gb240 hg w11 BK240 hb; have GW240 := bs_ HB hg; have GE240 := bs_ HB hg; replace HB := bt_ HB hb; clear hb hg; obtain ⟨hcz12_0, hcz12_1, hcz12_2, hfz12_0, hfz12_1, hfz12_2⟩ := ch3_ BK240) | ((refine gc_ 94 ?_); refine ge_ 15 Try.func94 #[.int .i64 a0, .agg #[.int .i64 ((rd_T25 l1 x9_1).f0), .int .i64 ((rd_T25 l1 x9_1).f1), .int .i64 ((rd_T25 l1 x9_1).f2)]] ?_; (with_reducible refine (impl_IsBall.calls k1 a0 ((rd_T25 l1 x9_1).f0) ((rd_T25 l1 x9_1).f1) ((rd_T25 l1 x9_1).f2) false _ A6.out).mono ?_); rintro e w13 ⟨rfl, hb⟩; refine ⟨_, rfl, ?_⟩; replace BK240 := Aside0.mk (blk_below (g := gb240) (o := .cells #[.int .i64 ((rd_T25 l1 x9_1).f0), .int .i64 ((rd_T25 l1 x9_1).f1), .int .i64 ((rd_T25 l1 x9_1).f2)] 25 (0, 0)) (bp_ BK240).out hb); replace HB := bt_ HB hb; (try clear hb)))
       go_ret
       exact ⟨es_, (bw_ HB).out⟩
     ·rw [if_neg c5] at H
      exact absurd H (by simp)
    ·rw [if_neg c4] at H
     exact absurd H (by simp)
   ·rw [if_neg c3] at H
    have c3b0 : decide (x9_1 < (l1.length : Int)) = false := decide_eq_false c3
    clear c3
    replace H := ob_ H
    obtain ⟨t242, A140, H⟩ := H
    have A14 := Aside0.mk A140
    clear A140
    obtain rfl := si_ H
    go_wp2_with (first | ((refine gc_ 118 ?_); refine ge_ 19 Try.func118 #[.int .i64 a0] ?_; (with_reducible refine (impl_isPrime.calls a0 t242 _ A14.out).mono ?_); rintro e w' ⟨rfl, ⟨nd, rfl⟩⟩; refine ⟨_, rfl, ?_⟩))
    go_ret
    exact ⟨es_, (bw_ HB).out⟩
end Go.Proofs.Ytgoeelhiffbjlaa.QT
