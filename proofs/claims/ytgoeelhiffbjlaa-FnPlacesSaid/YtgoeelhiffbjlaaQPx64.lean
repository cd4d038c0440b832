import Derived.Test.YtgoeelhiffbjlaaQPx9
import Derived.Test.YtgoeelhiffbjlaaQPx44
import Derived.Test.YtgoeelhiffbjlaaQPx47
import Derived.Test.YtgoeelhiffbjlaaQPx48
import Derived.Test.YtgoeelhiffbjlaaQPx63
namespace Go.Proofs.Ytgoeelhiffbjlaa.QP
open Go.RowKit Go.Proofs.YtgoeelhiffbjlaaW.PrintWords Go.Proofs.YtgoeelhiffbjlaaW.PrintLast Go.Proofs.YtgoeelhiffbjlaaW.PrintMore
attribute [local go_sem] isSome_setCell max2_int min2_int max_two min_two max_three min_three max_four min_four
set_option linter.unusedVariables false
set_option linter.unusedSimpArgs false

attribute [local go_sem high] eqA25
/-! ### spec_PlaceOfBall: function 52 -/
mutual
def spec_PlaceOfBall.l0 : Nat → Int → Int → Bool → Int → Int → Int → Int → Int → Int → Int → Int → Int → Option (Int × Int)
 | 0, _, _, _, _, _, _, _, _, _, _, _, _ => none
 | k + 1, x0, x9, x12, x585000, x585001, x585002, x591000, x591001, x591002, x592000, x592001, x592002 => if (!(x591000 == x585000) || (!(x591001 == x585001) || (!(x591002 == x585002)))) = true then ((spec_l07Child.f x0 x9).bind fun bt592 => (spec_PlaceOfBall.l1 k x0 x9 x12 bt592.1 bt592.2 0 x585000 x585001 x585002 x591000 x591001 x591002 x592000 x592001 x592002)) else (some (x9, 0))
def spec_PlaceOfBall.l1 : Nat → Int → Int → Bool → Int → Int → Int → Int → Int → Int → Int → Int → Int → Int → Int → Int → Option (Int × Int)
 | 0, _, _, _, _, _, _, _, _, _, _, _, _, _, _, _ => none
 | k + 1, x0, x9, x12, x13, x14, x15, x585000, x585001, x585002, x591000, x591001, x591002, x592000, x592001, x592002 => if x15 < x14 then ((spec_l07Next.f k x0 x591000 x591001 x591002 x592000 x592001 x592002 x12 x15).bind fun bt594 => (if bt594.2.2.2 = true then ((spec_l02Distance.f k x0 bt594.1 bt594.2.1 bt594.2.2.1 x585000 x585001 x585002).bind fun t599 => ((spec_l02Distance.f k x0 x591000 x591001 x591002 x585000 x585001 x585002).bind fun t600 => (if t599 < t600 then (spec_PlaceOfBall.l0 k x0 (wrap64 (x13 + x15)) true x585000 x585001 x585002 bt594.1 bt594.2.1 bt594.2.2.1 x591000 x591001 x591002) else (spec_PlaceOfBall.l1 k x0 x9 x12 x13 x14 (wrap64 (x15 + 1)) x585000 x585001 x585002 x591000 x591001 x591002 x592000 x592001 x592002)))) else (spec_PlaceOfBall.l1 k x0 x9 x12 x13 x14 (wrap64 (x15 + 1)) x585000 x585001 x585002 x591000 x591001 x591002 x592000 x592001 x592002))) else (spec_PlaceOfBall.l0 k x0 x9 x12 x585000 x585001 x585002 x591000 x591001 x591002 x592000 x592001 x592002)
end
def spec_PlaceOfBall.f (k : Nat) (a0 a1_0 a1_1 a1_2 a2_0 a2_1 a2_2 : Int) : Option (Int × Int) := (spec_l01Code.f k a0 (([(⟨a1_0, a1_1, a1_2⟩ : S25), (⟨a2_0, a2_1, a2_2⟩ : S25)] : List (S25)))).bind fun t588 => (if t588 = 0 then ((spec_l02Distance.f k a0 a1_0 a1_1 a1_2 a2_0 a2_1 a2_2).bind fun t589 => (if t589 > 4 then (some (0, 4)) else (spec_PlaceOfBall.l0 k a0 0 false a2_0 a2_1 a2_2 a1_0 a1_1 a1_2 0 0 0))) else (some (0, t588)))
def spec_PlaceOfBall.T6 : Bool × List (List Nat × List Nat) := (true, [([], []), ([], []), ([], []), ([], []), ([2, 3], []), ([2, 0, 4, 0, 2, 3, 4], [0, 2]), ([3, 1, 5, 0, 1, 2, 3, 4, 5], [1, 3]), ([6, 0, 1, 2, 3, 4, 5, 6], [])])
def spec_PlaceOfBall.B6 : List Nat := [0, 0, 0, 0, 12, 29, 63, 127]
theorem spec_PlaceOfBall.tab6 : rtab .any (opsOf Try.f52 6) = spec_PlaceOfBall.T6 := by kernel_rfl
theorem spec_PlaceOfBall.bits6 : waitsOk spec_PlaceOfBall.T6.2 spec_PlaceOfBall.B6 = true := by kernel_rfl
def spec_PlaceOfBall.T13 : Bool × List (List Nat × List Nat) := (true, [([], []), ([0], [0]), ([1], [1]), ([1], [1]), ([1], [1]), ([2, 3, 4, 1, 1], [1, 2, 3, 4]), ([1], [1]), ([1], [1]), ([1], [1]), ([6, 7, 8, 5, 1], [1, 6, 7, 8]), ([5, 9, 1], [1, 5, 9]), ([1, 10], [1, 10])])
def spec_PlaceOfBall.B13 : List Nat := [0, 1, 3, 3, 3, 31, 3, 3, 3, 511, 1023, 2047]
theorem spec_PlaceOfBall.tab13 : rtab .any (opsOf Try.f52 13) = spec_PlaceOfBall.T13 := by kernel_rfl
theorem spec_PlaceOfBall.bits13 : waitsOk spec_PlaceOfBall.T13.2 spec_PlaceOfBall.B13 = true := by kernel_rfl
set_option maxHeartbeats 8000000 in
set_option maxRecDepth 100000 in
theorem spec_PlaceOfBall.calls (k : Nat) (a0 a1_0 a1_1 a1_2 a2_0 a2_1 a2_2 r1 r2 : Int) (w : World) (h : spec_PlaceOfBall.f k a0 a1_0 a1_1 a1_2 a2_0 a2_1 a2_2 = some (r1, r2)) :
  Calls Try.prog 52 #[.int .i64 a0, .agg #[.int .i64 a1_0, .int .i64 a1_1, .int .i64 a1_2], .agg #[.int .i64 a2_0, .int .i64 a2_1, .int .i64 a2_2]] w fun e w' => e = .returned (.tuple #[.int .i64 r1, .int .i64 r2]) ∧ Below w.heap.size w w' := by
 have hu25 := Try.underlying25
 have HB := Aside0.mk (Below.refl w.heap.size w)
 unfold spec_PlaceOfBall.f at h
 have H := h
 clear h
 obtain ⟨y585, hy585⟩ : ∃ y_ : List (S25), y_ = (([(⟨a1_0, a1_1, a1_2⟩ : S25), (⟨a2_0, a2_1, a2_2⟩ : S25)] : List (S25))) := ⟨_, rfl⟩
 replace H : ((spec_l01Code.f k a0 y585).bind fun t588 => (if t588 = 0 then ((spec_l02Distance.f k a0 a1_0 a1_1 a1_2 a2_0 a2_1 a2_2).bind fun t589 => (if t589 > 4 then (some (0, 4)) else (spec_PlaceOfBall.l0 k a0 0 false a2_0 a2_1 a2_2 a1_0 a1_1 a1_2 0 0 0))) else (some (0, t588)))) = some (r1, r2) := by first | (rw [hy585]; with_reducible exact H) | (have H2_ := (Option.bind_some _ _).symm.trans H; rw [hy585]; with_reducible exact H2_) | (have H2_ := (Option.bind_some _ _).symm.trans H; with_reducible exact H2_) | with_reducible exact H | (rw [hy585]; exact H) | exact H
 have Ny585 := Aside0.mk hy585
 clear hy585
 replace H := oc_ H
 obtain ⟨t588, A4, H⟩ := H
 replace H := ie_ H
 rcases H with ⟨c5b0, c5b1, H⟩ | ⟨c5, c5b0, c5b1, H⟩
 ·replace H := oc_ H
  obtain ⟨t589, A6, H⟩ := H
  replace H := ig_ H
  rcases H with ⟨c7b0, H⟩ | ⟨c7b0, H⟩
  ·simp only [Option.some.injEq, Prod.mk.injEq] at H
   obtain ⟨rfl, rfl⟩ := H
   go_enter Try.func52, Try.ntmps52
   go_wp2_with (first | ((refine gd_ 4 ?_); refine by_ 4 #[.int .i64 a1_0, .int .i64 a1_1, .int .i64 a1_2] 25 HB ?_; intro gb583 hg w8 BK583 hb GW583 HB_; replace HB := HB_; clear hb hg) | ((refine gd_ 5 ?_); refine by_ 5 #[.int .i64 a2_0, .int .i64 a2_1, .int .i64 a2_2] 25 HB ?_; intro gb584 hg w9 BK584 hb GW584 HB_; have NB583_584 := bm_ BK583 hg; have NB584_583 := bn_ BK583 hg; replace BK583 := bb_ BK583 hb; replace HB := HB_; clear hb hg; have hnb10 := NB583_584.out; have hnc10 := NB584_583.out; obtain ⟨hcz11_0, hcz11_1, hcz11_2, hfz11_0, hfz11_1, hfz11_2⟩ := ch3_ BK583; obtain ⟨hcz12_0, hcz12_1, hcz12_2, hfz12_0, hfz12_1, hfz12_2⟩ := ch3_ BK584) | ((refine gd_ 21 ?_); refine Kd.R_lit k25 _ 25 ?hg (N := 21) ?hd (xs := ([(⟨a1_0, a1_1, a1_2⟩ : S25), (⟨a2_0, a2_1, a2_2⟩ : S25)] : List (S25))) (inner := [.int .i64 a1_0, .int .i64 a1_1, .int .i64 a1_2, .int .i64 a2_0, .int .i64 a2_1, .int .i64 a2_2]) (ok := fun _ => True) (okp := fun _ => True) ?hr ?hp (fun _ hk => hk) trivial (Below.refl _ _) (Nat.le_refl _) (by simp) ?_; (case hd => rfl); (case hg => rfl); (case hr => first | (go_simp; done) | (go_simp; rfl)); (case hp => exact (Reps.c3 (show Kd.M k25 _ _ _ (⟨a1_0, a1_1, a1_2⟩ : S25) [.int .i64 a1_0, .int .i64 a1_1, .int .i64 a1_2] from (k25_mkM _ _ _ (⟨a1_0, a1_1, a1_2⟩ : S25) )) (Reps.c3 (show Kd.M k25 _ _ _ (⟨a2_0, a2_1, a2_2⟩ : S25) [.int .i64 a2_0, .int .i64 a2_1, .int .i64 a2_2] from (k25_mkM _ _ _ (⟨a2_0, a2_1, a2_2⟩ : S25) )) (Reps.none _ _)))); intro v586 w13 ho14 hb hg_ hnew_; clear hg_ hnew_; (first | rw [← Ny585.out] at ho14 | (simp only [Int.reduceToNat] at ho14; rw [← Ny585.out] at ho14)); have HO587 := Aside0.mk (Kd.R_lower (Kd.R_newB (Kd.R_newB ho14 (g := gb583) (o := .cells #[.int .i64 a1_0, .int .i64 a1_1, .int .i64 a1_2] 25 (0, 0)) (bl_ BK583).out) (g := gb584) (o := .cells #[.int .i64 a2_0, .int .i64 a2_1, .int .i64 a2_2] 25 (0, 0)) (bl_ BK584).out) (below_size (bw_ HB).out)); replace BK583 := bb_ BK583 hb; replace BK584 := bb_ BK584 hb; replace HB := bt_ HB hb; clear hb ho14; obtain ⟨Ao15, co15, eo15⟩ := Kd.R_slice HO587.out; subst eo15) | ((refine gc_ 88 ?_); refine ge_ 22 Try.func88 #[.int .i64 a0, .slice Ao15 y585.length co15] ?_; (with_reducible refine (spec_l01Code.calls k a0 _ _ y585 t588 _ ?side1 ?side2 A4.out).mono ?_); (case side1 => exact ca_ (Kd.R_reads' HO587.out).2.2); (case side2 => exact (Kd.R_reads' HO587.out).2.1); rintro e w16 ⟨rfl, hb⟩; refine ⟨_, rfl, ?_⟩; replace HO587 := rb_ HO587 hb; replace BK583 := bb_ BK583 hb; replace BK584 := bb_ BK584 hb; replace HB := bt_ HB hb; (try clear hb); obtain ⟨hcz17_0, hcz17_1, hcz17_2, hfz17_0, hfz17_1, hfz17_2⟩ := ch3_ BK583; obtain ⟨hcz18_0, hcz18_1, hcz18_2, hfz18_0, hfz18_1, hfz18_2⟩ := ch3_ BK584) | ((refine gc_ 125 ?_); refine ge_ 29 Try.func125 #[.int .i64 a0, .agg #[.int .i64 a1_0, .int .i64 a1_1, .int .i64 a1_2], .agg #[.int .i64 a2_0, .int .i64 a2_1, .int .i64 a2_2]] ?_; (with_reducible refine (spec_l02Distance.calls k a0 a1_0 a1_1 a1_2 a2_0 a2_1 a2_2 t589 _ A6.out).mono ?_); rintro e w19 ⟨rfl, hb⟩; refine ⟨_, rfl, ?_⟩; replace HO587 := rb_ HO587 hb; replace BK583 := bb_ BK583 hb; replace BK584 := bb_ BK584 hb; replace HB := bt_ HB hb; (try clear hb)))
   go_ret2
   exact ⟨es_, (bw_ HB).out⟩
  have H' := Aside0.mk H
  clear H
  go_enter Try.func52, Try.ntmps52
  try go_wp2_with (first | ((refine gd_ 4 ?_); refine by_ 4 #[.int .i64 a1_0, .int .i64 a1_1, .int .i64 a1_2] 25 HB ?_; intro gb583 hg w20 BK583 hb GW583 HB_; replace HB := HB_; clear hb hg) | ((refine gd_ 5 ?_); refine by_ 5 #[.int .i64 a2_0, .int .i64 a2_1, .int .i64 a2_2] 25 HB ?_; intro gb584 hg w21 BK584 hb GW584 HB_; have NB583_584 := bm_ BK583 hg; have NB584_583 := bn_ BK583 hg; replace BK583 := bb_ BK583 hb; replace HB := HB_; clear hb hg; have hnb22 := NB583_584.out; have hnc22 := NB584_583.out; obtain ⟨hcz23_0, hcz23_1, hcz23_2, hfz23_0, hfz23_1, hfz23_2⟩ := ch3_ BK583; obtain ⟨hcz24_0, hcz24_1, hcz24_2, hfz24_0, hfz24_1, hfz24_2⟩ := ch3_ BK584) | ((refine gd_ 21 ?_); refine Kd.R_lit k25 _ 25 ?hg (N := 21) ?hd (xs := ([(⟨a1_0, a1_1, a1_2⟩ : S25), (⟨a2_0, a2_1, a2_2⟩ : S25)] : List (S25))) (inner := [.int .i64 a1_0, .int .i64 a1_1, .int .i64 a1_2, .int .i64 a2_0, .int .i64 a2_1, .int .i64 a2_2]) (ok := fun _ => True) (okp := fun _ => True) ?hr ?hp (fun _ hk => hk) trivial (Below.refl _ _) (Nat.le_refl _) (by simp) ?_; (case hd => rfl); (case hg => rfl); (case hr => first | (go_simp; done) | (go_simp; rfl)); (case hp => exact (Reps.c3 (show Kd.M k25 _ _ _ (⟨a1_0, a1_1, a1_2⟩ : S25) [.int .i64 a1_0, .int .i64 a1_1, .int .i64 a1_2] from (k25_mkM _ _ _ (⟨a1_0, a1_1, a1_2⟩ : S25) )) (Reps.c3 (show Kd.M k25 _ _ _ (⟨a2_0, a2_1, a2_2⟩ : S25) [.int .i64 a2_0, .int .i64 a2_1, .int .i64 a2_2] from (k25_mkM _ _ _ (⟨a2_0, a2_1, a2_2⟩ : S25) )) (Reps.none _ _)))); intro v586 w25 ho26 hb hg_ hnew_; clear hg_ hnew_; (first | rw [← Ny585.out] at ho26 | (simp only [Int.reduceToNat] at ho26; rw [← Ny585.out] at ho26)); have HO587 := Aside0.mk (Kd.R_lower (Kd.R_newB (Kd.R_newB ho26 (g := gb583) (o := .cells #[.int .i64 a1_0, .int .i64 a1_1, .int .i64 a1_2] 25 (0, 0)) (bl_ BK583).out) (g := gb584) (o := .cells #[.int .i64 a2_0, .int .i64 a2_1, .int .i64 a2_2] 25 (0, 0)) (bl_ BK584).out) (below_size (bw_ HB).out)); replace BK583 := bb_ BK583 hb; replace BK584 := bb_ BK584 hb; replace HB := bt_ HB hb; clear hb ho26; obtain ⟨Ao27, co27, eo27⟩ := Kd.R_slice HO587.out; subst eo27) | ((refine gc_ 88 ?_); refine ge_ 22 Try.func88 #[.int .i64 a0, .slice Ao27 y585.length co27] ?_; (with_reducible refine (spec_l01Code.calls k a0 _ _ y585 t588 _ ?side1 ?side2 A4.out).mono ?_); (case side1 => exact ca_ (Kd.R_reads' HO587.out).2.2); (case side2 => exact (Kd.R_reads' HO587.out).2.1); rintro e w28 ⟨rfl, hb⟩; refine ⟨_, rfl, ?_⟩; replace HO587 := rb_ HO587 hb; replace BK583 := bb_ BK583 hb; replace BK584 := bb_ BK584 hb; replace HB := bt_ HB hb; (try clear hb); obtain ⟨hcz29_0, hcz29_1, hcz29_2, hfz29_0, hfz29_1, hfz29_2⟩ := ch3_ BK583; obtain ⟨hcz30_0, hcz30_1, hcz30_2, hfz30_0, hfz30_1, hfz30_2⟩ := ch3_ BK584) | ((refine gc_ 125 ?_); refine ge_ 29 Try.func125 #[.int .i64 a0, .agg #[.int .i64 a1_0, .int .i64 a1_1, .int .i64 a1_2], .agg #[.int .i64 a2_0, .int .i64 a2_1, .int .i64 a2_2]] ?_; (with_reducible refine (spec_l02Distance.calls k a0 a1_0 a1_1 a1_2 a2_0 a2_1 a2_2 t589 _ A6.out).mono ?_); rintro e w31 ⟨rfl, hb⟩; refine ⟨_, rfl, ?_⟩; replace HO587 := rb_ HO587 hb; replace BK583 := bb_ BK583 hb; replace BK584 := bb_ BK584 hb; replace HB := bt_ HB hb; (try clear hb)))
  replace HO587 := Aside0.mk (Kd.R_drew HO587.out)
  replace BK583 := bd_ BK583
  replace BK584 := bd_ BK584
  replace HB := be_ HB
  refine start_ (n := 8) (S := fun w' => w'.cell? ⟨gb583, 0, none⟩ = some (.int .i64 a1_0) ∧ w'.cell? ⟨gb583, 1, none⟩ = some (.int .i64 a1_1) ∧ w'.cell? ⟨gb583, 2, none⟩ = some (.int .i64 a1_2)) (ds := []) (bv_ 8 0) (by kernel_rfl) rfl rfl ⟨cz_ BK583 0, cz_ BK583 1, cz_ BK583 2⟩ (fun hHeld => ?_); refine with_tabW spec_PlaceOfBall.tab6 spec_PlaceOfBall.bits6 (fun HT_ HW_ => ?_)
  generalize w31.drew = w32 at HO587 BK583 BK584 HB hHeld ⊢
  refine px_ HT_ 1 32 2 ?_
  refine ta_ HT_ HW_ 0 (some 31) (bv_ 8 3) hHeld ?_ (hy := by rintro w' ⟨s0, s1, s2⟩; go_simp; with_reducible rfl)
  refine join_ (σ := Nat × Nat) 4 (bv_ 8 15) (fun s_ => [(10, .pointer (some ⟨s_.1, 0, none⟩)), (11, .pointer (some ⟨s_.2, 0, none⟩))]) (fun s_ w' => (w'.cell? ⟨gb583, 0, none⟩ = some (.int .i64 a1_0) ∧ w'.cell? ⟨gb583, 1, none⟩ = some (.int .i64 a1_1) ∧ w'.cell? ⟨gb583, 2, none⟩ = some (.int .i64 a1_2)) ∧ (Kd.R k25 25 w' w.heap.size (fun k_ => k_ ≠ gb583 ∧ k_ ≠ gb584 ∧ k_ ≠ s_.1 ∧ k_ ≠ s_.2) (.slice Ao27 y585.length co27) y585) ∧ (w'.heap[gb583]? = some (.cells #[.int .i64 a1_0, .int .i64 a1_1, .int .i64 a1_2] 25 (0, 0))) ∧ (w'.heap[gb584]? = some (.cells #[.int .i64 a2_0, .int .i64 a2_1, .int .i64 a2_2] 25 (0, 0))) ∧ (w'.heap[s_.1]? = some (.cells #[.int .i64 0, .int .i64 0, .int .i64 0] 25 (0, 0))) ∧ (w'.heap[s_.2]? = some (.cells #[.int .i64 0, .int .i64 0, .int .i64 0] 25 (0, 0))) ∧ (w.heap.size ≤ s_.1) ∧ (w.heap.size ≤ s_.1) ∧ (gb583 ≠ s_.1) ∧ (s_.1 ≠ gb583) ∧ (gb584 ≠ s_.1) ∧ (s_.1 ≠ gb584) ∧ (s_.2 ≠ s_.1) ∧ (s_.1 ≠ s_.2) ∧ (w.heap.size ≤ s_.2) ∧ (w.heap.size ≤ s_.2) ∧ (gb583 ≠ s_.2) ∧ (s_.2 ≠ gb583) ∧ (gb584 ≠ s_.2) ∧ (s_.2 ≠ gb584) ∧ (Below w.heap.size w w')) ?_ ?_
  rotate_left
  ·intro hCont
   refine tw_ HT_ 2 3 (some 10) (some 11) (bv_ 8 7) (bv_ 8 11) (fun K hK => ?_) (fun K hK => ?_)
   ·skip
    refine bz_ 10 #[.int .i64 0, .int .i64 0, .int .i64 0] 25 ?_
    intro gb590 hg w33 BK590 hb
    have GW590 := bs_ HB hg
    have NB583_590 := bm_ BK583 hg
    have NB590_583 := bn_ BK583 hg
    have NB584_590 := bm_ BK584 hg
    have NB590_584 := bn_ BK584 hg
    replace HO587 := Aside0.mk (Kd.R_below (Kd.R_elderB (ra_ HO587.out) gb590 (Nat.le_of_eq hg.symm)) hb)
    replace BK583 := bb_ BK583 hb
    replace BK584 := bb_ BK584 hb
    replace HB := bt_ HB hb
    clear hb hg
    refine hK.out _ _ ⟨cz_ BK583 0, cz_ BK583 1, cz_ BK583 2⟩ (fun hHeld => ?_)
    clear hK K
    refine nm_ (some 10) ?_
    refine on_ HT_ 3 (some 11) (bv_ 8 15) (fun K hK => ?_)
    refine bz_ 11 #[.int .i64 0, .int .i64 0, .int .i64 0] 25 ?_
    intro gb591 hg w34 BK591 hb
    have GW591 := bs_ HB hg
    have NB583_591 := bm_ BK583 hg
    have NB591_583 := bn_ BK583 hg
    have NB584_591 := bm_ BK584 hg
    have NB591_584 := bn_ BK584 hg
    have NB590_591 := bm_ BK590 hg
    have NB591_590 := bn_ BK590 hg
    replace HO587 := Aside0.mk (Kd.R_below (Kd.R_elderB (ra_ HO587.out) gb591 (Nat.le_of_eq hg.symm)) hb)
    replace BK583 := bb_ BK583 hb
    replace BK584 := bb_ BK584 hb
    replace BK590 := bb_ BK590 hb
    replace HB := bt_ HB hb
    clear hb hg
    refine hK.out _ _ ⟨cz_ BK583 0, cz_ BK583 1, cz_ BK583 2⟩ (fun hHeld => ?_)
    clear hK K
    refine nm_ (some 11) ?_
    exact norm_ (by simp only [putAll, Act.put, lstS, lstZ, lstC]) (hCont (gb590, gb591) _ ⟨hHeld, (by (with_reducible repeat (first | apply Kd.R_alloc | apply Kd.R_drewN | apply Kd.R_drew)); exact Kd.R_mono HO587.out (fun _ hk => ⟨hk.1.1.1.2, ⟨hk.1.1.2, ⟨hk.1.2, hk.2⟩⟩⟩)), (bl_ BK583).out, (bl_ BK584).out, (bl_ BK590).out, (bl_ BK591).out, GW590.out, GW590.out, NB583_590.out, NB590_583.out, NB584_590.out, NB590_584.out, NB591_590.out, NB590_591.out, GW591.out, GW591.out, NB583_591.out, NB591_583.out, NB584_591.out, NB591_584.out, (bw_ HB).out⟩)
   skip
   refine bz_ 11 #[.int .i64 0, .int .i64 0, .int .i64 0] 25 ?_
   intro gb591 hg w33 BK591 hb
   have GW591 := bs_ HB hg
   have NB583_591 := bm_ BK583 hg
   have NB591_583 := bn_ BK583 hg
   have NB584_591 := bm_ BK584 hg
   have NB591_584 := bn_ BK584 hg
   replace HO587 := Aside0.mk (Kd.R_below (Kd.R_elderB (ra_ HO587.out) gb591 (Nat.le_of_eq hg.symm)) hb)
   replace BK583 := bb_ BK583 hb
   replace BK584 := bb_ BK584 hb
   replace HB := bt_ HB hb
   clear hb hg
   refine hK.out _ _ ⟨cz_ BK583 0, cz_ BK583 1, cz_ BK583 2⟩ (fun hHeld => ?_)
   clear hK K
   refine nm_ (some 11) ?_
   refine on_ HT_ 2 (some 10) (bv_ 8 15) (fun K hK => ?_)
   refine bz_ 10 #[.int .i64 0, .int .i64 0, .int .i64 0] 25 ?_
   intro gb590 hg w34 BK590 hb
   have GW590 := bs_ HB hg
   have NB583_590 := bm_ BK583 hg
   have NB590_583 := bn_ BK583 hg
   have NB584_590 := bm_ BK584 hg
   have NB590_584 := bn_ BK584 hg
   have NB591_590 := bm_ BK591 hg
   have NB590_591 := bn_ BK591 hg
   replace HO587 := Aside0.mk (Kd.R_below (Kd.R_elderB (ra_ HO587.out) gb590 (Nat.le_of_eq hg.symm)) hb)
   replace BK583 := bb_ BK583 hb
   replace BK584 := bb_ BK584 hb
   replace BK591 := bb_ BK591 hb
   replace HB := bt_ HB hb
   clear hb hg
   refine hK.out _ _ ⟨cz_ BK583 0, cz_ BK583 1, cz_ BK583 2⟩ (fun hHeld => ?_)
   clear hK K
   refine nm_ (some 10) ?_
   exact norm_ (by simp only [putAll, Act.put, lstS, lstZ, lstC]) (hCont (gb590, gb591) _ ⟨hHeld, (by (with_reducible repeat (first | apply Kd.R_alloc | apply Kd.R_drewN | apply Kd.R_drew)); exact Kd.R_mono HO587.out (fun _ hk => ⟨hk.1.1.1.2, ⟨hk.1.1.2, ⟨hk.2, hk.1.2⟩⟩⟩)), (bl_ BK583).out, (bl_ BK584).out, (bl_ BK590).out, (bl_ BK591).out, GW590.out, GW590.out, NB583_590.out, NB590_583.out, NB584_590.out, NB590_584.out, NB591_590.out, NB590_591.out, GW591.out, GW591.out, NB583_591.out, NB591_583.out, NB584_591.out, NB591_584.out, (bw_ HB).out⟩)
  rintro ⟨gb590, gb591⟩ w35 ⟨hS_, h0_, h1_, h2_, h3_, h4_, h5_, h6_, h7_, h8_, h9_, h10_, h11_, h12_, h13_, h14_, h15_, h16_, h17_, h18_, h19_⟩
  clear HO587 BK583 BK584 HB
  have HO587 := Aside0.mk h0_
  have BK583 := Aside0.mk h1_
  have BK584 := Aside0.mk h2_
  have BK590 := Aside0.mk h3_
  have BK591 := Aside0.mk h4_
  have GW590 := Aside0.mk h5_
  have GW590 := Aside0.mk h6_
  have NB583_590 := Aside0.mk h7_
  have NB590_583 := Aside0.mk h8_
  have NB584_590 := Aside0.mk h9_
  have NB590_584 := Aside0.mk h10_
  have NB591_590 := Aside0.mk h11_
  have NB590_591 := Aside0.mk h12_
  have GW591 := Aside0.mk h13_
  have GW591 := Aside0.mk h14_
  have NB583_591 := Aside0.mk h15_
  have NB591_583 := Aside0.mk h16_
  have NB584_591 := Aside0.mk h17_
  have NB591_584 := Aside0.mk h18_
  have HB := Aside0.mk h19_
  clear h0_ h1_ h2_ h3_ h4_ h5_ h6_ h7_ h8_ h9_ h10_ h11_ h12_ h13_ h14_ h15_ h16_ h17_ h18_ h19_
  have hHeld : w35.cell? ⟨gb583, 0, none⟩ = some (.int .i64 a1_0) ∧ w35.cell? ⟨gb583, 1, none⟩ = some (.int .i64 a1_1) ∧ w35.cell? ⟨gb583, 2, none⟩ = some (.int .i64 a1_2) := hS_
  refine norm_ (a' := ?_) ?_ ?_
  rotate_left
  ·simp only [putAll, Act.put, lstS, lstZ, lstC]
   rfl
  refine px_ HT_ 4 9 31 ?_
  refine on_ HT_ 5 none (bv_ 8 63) (fun K hK => ?_)
  have hs36 : w35.cell? ⟨gb590, 0, none⟩ = some (.int .i64 0) := (blk_cell BK590.out 0).trans rfl
  have hfs36 := blk_frozen BK590.out 0
  have hns36_0 := NB583_590.out
  have hns36_1 := NB584_590.out
  have hns36_3 := NB591_590.out
  have hms36_0 := NB590_583.out
  have hms36_1 := NB590_584.out
  have hms36_3 := NB590_591.out
  have hs37 : w35.cell? ⟨gb590, 1, none⟩ = some (.int .i64 0) := (blk_cell BK590.out 1).trans rfl
  have hfs37 := blk_frozen BK590.out 1
  have hns37_0 := NB583_590.out
  have hns37_1 := NB584_590.out
  have hns37_3 := NB591_590.out
  have hms37_0 := NB590_583.out
  have hms37_1 := NB590_584.out
  have hms37_3 := NB590_591.out
  have hs38 : w35.cell? ⟨gb590, 2, none⟩ = some (.int .i64 0) := (blk_cell BK590.out 2).trans rfl
  have hfs38 := blk_frozen BK590.out 2
  have hns38_0 := NB583_590.out
  have hns38_1 := NB584_590.out
  have hns38_3 := NB591_590.out
  have hms38_0 := NB590_583.out
  have hms38_1 := NB590_584.out
  have hms38_3 := NB590_591.out
  refine skip_ (w1 := ?_) (by rfl) rfl ?_ ?_
  rotate_left
  ·go_simp
   rfl
  refine hK.out _ _ ⟨(cg_ NB583_590 ((cg_ NB583_590 ((cg_ NB583_590 (hHeld.1)))))), (cg_ NB583_590 ((cg_ NB583_590 ((cg_ NB583_590 (hHeld.2.1)))))), (cg_ NB583_590 ((cg_ NB583_590 ((cg_ NB583_590 (hHeld.2.2))))))⟩ (fun hHeld => ?_)
  clear hK K
  refine on_ HT_ 6 none (bv_ 8 127) (fun K hK => ?_)
  have hs39 : w35.cell? ⟨gb591, 0, none⟩ = some (.int .i64 0) := (blk_cell BK591.out 0).trans rfl
  have hfs39 := blk_frozen BK591.out 0
  have hns39_0 := NB583_591.out
  have hns39_1 := NB584_591.out
  have hns39_2 := NB590_591.out
  have hms39_0 := NB591_583.out
  have hms39_1 := NB591_584.out
  have hms39_2 := NB591_590.out
  have hs40 : w35.cell? ⟨gb591, 1, none⟩ = some (.int .i64 0) := (blk_cell BK591.out 1).trans rfl
  have hfs40 := blk_frozen BK591.out 1
  have hns40_0 := NB583_591.out
  have hns40_1 := NB584_591.out
  have hns40_2 := NB590_591.out
  have hms40_0 := NB591_583.out
  have hms40_1 := NB591_584.out
  have hms40_2 := NB591_590.out
  have hs41 : w35.cell? ⟨gb591, 2, none⟩ = some (.int .i64 0) := (blk_cell BK591.out 2).trans rfl
  have hfs41 := blk_frozen BK591.out 2
  have hns41_0 := NB583_591.out
  have hns41_1 := NB584_591.out
  have hns41_2 := NB590_591.out
  have hms41_0 := NB591_583.out
  have hms41_1 := NB591_584.out
  have hms41_2 := NB591_590.out
  refine skip_ (w1 := ?_) (by rfl) rfl ?_ ?_
  rotate_left
  ·go_simp
   rfl
  refine hK.out _ _ ⟨(cg_ NB583_591 ((cg_ NB583_591 ((cg_ NB583_591 (hHeld.1)))))), (cg_ NB583_591 ((cg_ NB583_591 ((cg_ NB583_591 (hHeld.2.1)))))), (cg_ NB583_591 ((cg_ NB583_591 ((cg_ NB583_591 (hHeld.2.2))))))⟩ (fun hHeld => ?_)
  clear hK K
  refine px_ HT_ 7 12 255 ?_
  refine done_ (done_of HT_.out (by kernel_rfl)) ?_
  try go_wp2
  go_loopg [9, 12] k (fun kq v9 v12 w' => ∃ (x9_1 : Int) (x12_1 : Bool) (x591000_1 : Int) (x591001_1 : Int) (x591002_1 : Int) (x592000_1 : Int) (x592001_1 : Int) (x592002_1 : Int), v9 = .int .i64 x9_1 ∧ v12 = .bool x12_1 ∧ Aside0 (spec_PlaceOfBall.l0 kq a0 x9_1 x12_1 a2_0 a2_1 a2_2 x591000_1 x591001_1 x591002_1 x592000_1 x592001_1 x592002_1 = some (r1, r2)) ∧ Aside0 (kq ≤ k) ∧ Aside0 (w'.heap[gb583]? = some (.cells #[.int .i64 a1_0, .int .i64 a1_1, .int .i64 a1_2] 25 (0, 0))) ∧ Aside0 (w'.heap[gb584]? = some (.cells #[.int .i64 a2_0, .int .i64 a2_1, .int .i64 a2_2] 25 (0, 0))) ∧ Aside0 (w'.heap[gb590]? = some (.cells #[.int .i64 x591000_1, .int .i64 x591001_1, .int .i64 x591002_1] 25 (0, 0))) ∧ Aside0 (w'.heap[gb591]? = some (.cells #[.int .i64 x592000_1, .int .i64 x592001_1, .int .i64 x592002_1] 25 (0, 0))) ∧ Aside0 (Below w.heap.size w w'))
  case atStart => exact ⟨(0), (false), (a1_0), (a1_1), (a1_2), (0), (0), (0), en_, en_, H', ⟨Nat.le_refl _⟩, bp_ BK583, bp_ BK584, bp_ BK590, bp_ BK591, bw_ HB⟩
  clear H'
  try clear c3
  try clear c5
  try clear c5b0
  try clear c5b1
  try clear c7b0
  try clear hcz11_0 hcz11_1 hcz11_2
  try clear hcz12_0 hcz12_1 hcz12_2
  try clear hcz17_0 hcz17_1 hcz17_2
  try clear hcz18_0 hcz18_1 hcz18_2
  try clear hcz23_0 hcz23_1 hcz23_2
  try clear hcz24_0 hcz24_1 hcz24_2
  try clear hcz29_0 hcz29_1 hcz29_2
  try clear hcz30_0 hcz30_1 hcz30_2
  try clear hfz11_0 hfz11_1 hfz11_2
  try clear hfz12_0 hfz12_1 hfz12_2
  try clear hfz17_0 hfz17_1 hfz17_2
  try clear hfz18_0 hfz18_1 hfz18_2
  try clear hfz23_0 hfz23_1 hfz23_2
  try clear hfz24_0 hfz24_1 hfz24_2
  try clear hfz29_0 hfz29_1 hfz29_2
  try clear hfz30_0 hfz30_1 hfz30_2
  obtain ⟨x9_1, x12_1, x591000_1, x591001_1, x591002_1, x592000_1, x592001_1, x592002_1, rfl, rfl, HA, HK1, BK583, BK584, BK590, BK591, HB⟩ := hrel
  cases gk with
  | zero => exact absurd HA.out (by simp [spec_PlaceOfBall.l0])
  | succ k1 =>
   have H := HA.out
   clear HA
   simp only [spec_PlaceOfBall.l0] at H
   by_cases c42 : (!(x591000_1 == a2_0) || (!(x591001_1 == a2_1) || (!(x591002_1 == a2_2)))) = true
   ·rw [if_pos c42] at H
    have c42b0 : (!(x591000_1 == a2_0) || (!(x591001_1 == a2_1) || (!(x591002_1 == a2_2)))) = true := c42
    clear c42
    replace H := oc_ H
    obtain ⟨⟨t592, t593⟩, A43, H⟩ := H
    have H' := Aside0.mk H
    clear H
    have hnb44 := NB590_583.out
    have hnc44 := NB583_590.out
    have hnb45 := NB590_584.out
    have hnc45 := NB584_590.out
    have hnb46 := NB590_591.out
    have hnc46 := NB591_590.out
    obtain ⟨hcz47_0, hcz47_1, hcz47_2, hfz47_0, hfz47_1, hfz47_2⟩ := ch3_ BK590
    have hnb48 := NB584_583.out
    have hnc48 := NB583_584.out
    have hnb49 := NB584_591.out
    have hnc49 := NB591_584.out
    obtain ⟨hcz50_0, hcz50_1, hcz50_2, hfz50_0, hfz50_1, hfz50_2⟩ := ch3_ BK584
    go_wp2_with (first | ((refine gc_ 122 ?_); refine ge_ 39 Try.func122 #[.int .i64 a0, .int .i64 x9_1] ?_; (with_reducible refine (spec_l07Child.calls a0 x9_1 t592 t593 _ A43.out).mono ?_); rintro e w' ⟨rfl, ⟨nd, rfl⟩⟩; refine ⟨_, rfl, ?_⟩))
    go_loopg [9, 12, 15] k1 (fun kq v9 v12 v15 w' => ∃ (x9_2 : Int) (x12_2 : Bool) (x15_2 : Int) (x591000_2 : Int) (x591001_2 : Int) (x591002_2 : Int) (x592000_2 : Int) (x592001_2 : Int) (x592002_2 : Int), v9 = .int .i64 x9_2 ∧ v12 = .bool x12_2 ∧ v15 = .int .i64 x15_2 ∧ Aside0 (spec_PlaceOfBall.l1 kq a0 x9_2 x12_2 t592 t593 x15_2 a2_0 a2_1 a2_2 x591000_2 x591001_2 x591002_2 x592000_2 x592001_2 x592002_2 = some (r1, r2)) ∧ Aside0 (kq ≤ k1) ∧ Aside0 (w'.heap[gb583]? = some (.cells #[.int .i64 a1_0, .int .i64 a1_1, .int .i64 a1_2] 25 (0, 0))) ∧ Aside0 (w'.heap[gb584]? = some (.cells #[.int .i64 a2_0, .int .i64 a2_1, .int .i64 a2_2] 25 (0, 0))) ∧ Aside0 (w'.heap[gb590]? = some (.cells #[.int .i64 x591000_2, .int .i64 x591001_2, .int .i64 x591002_2] 25 (0, 0))) ∧ Aside0 (w'.heap[gb591]? = some (.cells #[.int .i64 x592000_2, .int .i64 x592001_2, .int .i64 x592002_2] 25 (0, 0))) ∧ Aside0 (Below w.heap.size w w'))
    case atStart => exact ⟨(x9_1), (x12_1), (0), (x591000_1), (x591001_1), (x591002_1), (x592000_1), (x592001_1), (x592002_1), en_, en_, en_, H', ⟨Nat.le_refl _⟩, bl_ BK583, bl_ BK584, bl_ BK590, bl_ BK591, bw_ HB⟩
    clear H'
    try clear c3
    try clear c5
    try clear c5b0
    try clear c5b1
    try clear c7b0
    try clear c42
    try clear c42b0
    try clear hcz11_0 hcz11_1 hcz11_2
    try clear hcz12_0 hcz12_1 hcz12_2
    try clear hcz17_0 hcz17_1 hcz17_2
    try clear hcz18_0 hcz18_1 hcz18_2
    try clear hcz23_0 hcz23_1 hcz23_2
    try clear hcz24_0 hcz24_1 hcz24_2
    try clear hcz29_0 hcz29_1 hcz29_2
    try clear hcz30_0 hcz30_1 hcz30_2
    try clear hcz47_0 hcz47_1 hcz47_2
    try clear hcz50_0 hcz50_1 hcz50_2
    try clear hfz11_0 hfz11_1 hfz11_2
    try clear hfz12_0 hfz12_1 hfz12_2
    try clear hfz17_0 hfz17_1 hfz17_2
    try clear hfz18_0 hfz18_1 hfz18_2
    try clear hfz23_0 hfz23_1 hfz23_2
    try clear hfz24_0 hfz24_1 hfz24_2
    try clear hfz29_0 hfz29_1 hfz29_2
    try clear hfz30_0 hfz30_1 hfz30_2
    try clear hfz47_0 hfz47_1 hfz47_2
    try clear hfz50_0 hfz50_1 hfz50_2
    obtain ⟨x9_2, x12_2, x15_2, x591000_2, x591001_2, x591002_2, x592000_2, x592001_2, x592002_2, rfl, rfl, rfl, HA, HK2, BK583, BK584, BK590, BK591, HB⟩ := hrel
    cases gk with
    | zero => exact absurd HA.out (by simp [spec_PlaceOfBall.l1])
    | succ k2 =>
     have H := HA.out
     clear HA
     simp only [spec_PlaceOfBall.l1] at H
     replace H := il_ H
     rcases H with ⟨c51b0, H⟩ | ⟨c51b0, H⟩
     ·replace H := oc_ H
      obtain ⟨⟨t594, t595, t596, t597⟩, A52, H⟩ := H
      replace H := ib_ H
      rcases H with ⟨rfl, H⟩ | ⟨rfl, H⟩
      ·replace H := oc_ H
       obtain ⟨t599, A54, H⟩ := H
       replace H := oc_ H
       obtain ⟨t600, A55, H⟩ := H
       replace H := il_ H
       rcases H with ⟨c56b0, H⟩ | ⟨c56b0, H⟩
       ·have H' := Aside0.mk H
        clear H
        have hnb57 := NB590_583.out
        have hnc57 := NB583_590.out
        have hnb58 := NB590_584.out
        have hnc58 := NB584_590.out
        have hnb59 := NB590_591.out
        have hnc59 := NB591_590.out
        obtain ⟨hcz60_0, hcz60_1, hcz60_2, hfz60_0, hfz60_1, hfz60_2⟩ := ch3_ BK590
        have hnb61 := NB591_583.out
        have hnc61 := NB583_591.out
        have hnb62 := NB591_584.out
        have hnc62 := NB584_591.out
        obtain ⟨hcz63_0, hcz63_1, hcz63_2, hfz63_0, hfz63_1, hfz63_2⟩ := ch3_ BK591
        try go_wp2_with (first | ((refine gc_ 126 ?_); refine ge_ 53 Try.func126 #[.int .i64 a0, .agg #[.int .i64 x591000_2, .int .i64 x591001_2, .int .i64 x591002_2], .agg #[.int .i64 x592000_2, .int .i64 x592001_2, .int .i64 x592002_2], .bool x12_2, .int .i64 x15_2] ?_; (with_reducible refine (spec_l07Next.calls k2 a0 x591000_2 x591001_2 x591002_2 x592000_2 x592001_2 x592002_2 x12_2 x15_2 t594 t595 t596 true _ A52.out).mono ?_); rintro e w64 ⟨rfl, hb⟩; refine ⟨_, rfl, ?_⟩; replace BK583 := bb_ BK583 hb; replace BK584 := bb_ BK584 hb; replace BK590 := bb_ BK590 hb; replace BK591 := bb_ BK591 hb; replace HB := bt_ HB hb; (try clear hb)) | ((refine gd_ 16 ?_); refine by_ 16 #[.int .i64 0, .int .i64 0, .int .i64 0] 25 HB ?_; intro gb598 hg w65 BK598 hb GW598 HB_; have NB583_598 := bm_ BK583 hg; have NB598_583 := bn_ BK583 hg; have NB584_598 := bm_ BK584 hg; have NB598_584 := bn_ BK584 hg; have NB590_598 := bm_ BK590 hg; have NB598_590 := bn_ BK590 hg; have NB591_598 := bm_ BK591 hg; have NB598_591 := bn_ BK591 hg; replace BK583 := bb_ BK583 hb; replace BK584 := bb_ BK584 hb; replace BK590 := bb_ BK590 hb; replace BK591 := bb_ BK591 hb; replace HB := HB_; clear hb hg; have hnb66 := NB598_583.out; have hnc66 := NB583_598.out; have hnb67 := NB598_584.out; have hnc67 := NB584_598.out; have hnb68 := NB598_590.out; have hnc68 := NB590_598.out; have hnb69 := NB598_591.out; have hnc69 := NB591_598.out; obtain ⟨hcz70_0, hcz70_1, hcz70_2, hfz70_0, hfz70_1, hfz70_2⟩ := ch3_ BK598))
        have n0_ : Aside0 ((((w65.setCell ⟨gb598, 0, none⟩ (.int .i64 t594)).setCell ⟨gb598, 1, none⟩ (.int .i64 t595)).setCell ⟨gb598, 2, none⟩ (.int .i64 t596)).heap[gb583]? = some (.cells #[.int .i64 a1_0, .int .i64 a1_1, .int .i64 a1_2] 25 (0, 0))) := fl_ BK583 NB583_598
        have n1_ : Aside0 ((((w65.setCell ⟨gb598, 0, none⟩ (.int .i64 t594)).setCell ⟨gb598, 1, none⟩ (.int .i64 t595)).setCell ⟨gb598, 2, none⟩ (.int .i64 t596)).heap[gb584]? = some (.cells #[.int .i64 a2_0, .int .i64 a2_1, .int .i64 a2_2] 25 (0, 0))) := fl_ BK584 NB584_598
        have n2_ : Aside0 ((((w65.setCell ⟨gb598, 0, none⟩ (.int .i64 t594)).setCell ⟨gb598, 1, none⟩ (.int .i64 t595)).setCell ⟨gb598, 2, none⟩ (.int .i64 t596)).heap[gb590]? = some (.cells #[.int .i64 x591000_2, .int .i64 x591001_2, .int .i64 x591002_2] 25 (0, 0))) := fl_ BK590 NB590_598
        have n3_ : Aside0 ((((w65.setCell ⟨gb598, 0, none⟩ (.int .i64 t594)).setCell ⟨gb598, 1, none⟩ (.int .i64 t595)).setCell ⟨gb598, 2, none⟩ (.int .i64 t596)).heap[gb591]? = some (.cells #[.int .i64 x592000_2, .int .i64 x592001_2, .int .i64 x592002_2] 25 (0, 0))) := fl_ BK591 NB591_598
        have n4_ : Aside0 ((((w65.setCell ⟨gb598, 0, none⟩ (.int .i64 t594)).setCell ⟨gb598, 1, none⟩ (.int .i64 t595)).setCell ⟨gb598, 2, none⟩ (.int .i64 t596)).heap[gb598]? = some (.cells #[.int .i64 t594, .int .i64 t595, .int .i64 t596] 25 (0, 0))) := bp_ BK598
        have n5_ : Aside0 (Below w.heap.size w (((w65.setCell ⟨gb598, 0, none⟩ (.int .i64 t594)).setCell ⟨gb598, 1, none⟩ (.int .i64 t595)).setCell ⟨gb598, 2, none⟩ (.int .i64 t596))) := bw_ HB
        (try clear BK583)
        (try clear BK584)
        (try clear BK590)
        (try clear BK591)
        (try clear BK598)
        (try clear HB)
        generalize (((w65.setCell ⟨gb598, 0, none⟩ (.int .i64 t594)).setCell ⟨gb598, 1, none⟩ (.int .i64 t595)).setCell ⟨gb598, 2, none⟩ (.int .i64 t596)) = w71 at n0_ n1_ n2_ n3_ n4_ n5_ ⊢
        have BK583 := n0_
        have BK584 := n1_
        have BK590 := n2_
        have BK591 := n3_
        have BK598 := n4_
        have HB := n5_
        clear n0_ n1_ n2_ n3_ n4_ n5_
        replace BK583 := bd_ BK583
        replace BK584 := bd_ BK584
        replace BK590 := bd_ BK590
        replace BK591 := bd_ BK591
        replace BK598 := bd_ BK598
        replace HB := be_ HB
        refine start_ (n := 12) (S := fun w' => w'.cell? ⟨gb598, 0, none⟩ = some (.int .i64 t594) ∧ w'.cell? ⟨gb598, 1, none⟩ = some (.int .i64 t595) ∧ w'.cell? ⟨gb598, 2, none⟩ = some (.int .i64 t596) ∧ w'.cell? ⟨gb584, 0, none⟩ = some (.int .i64 a2_0) ∧ w'.cell? ⟨gb584, 1, none⟩ = some (.int .i64 a2_1) ∧ w'.cell? ⟨gb584, 2, none⟩ = some (.int .i64 a2_2) ∧ w'.cell? ⟨gb590, 0, none⟩ = some (.int .i64 x591000_2) ∧ w'.cell? ⟨gb590, 1, none⟩ = some (.int .i64 x591001_2) ∧ w'.cell? ⟨gb590, 2, none⟩ = some (.int .i64 x591002_2)) (ds := []) (bv_ 12 0) (by kernel_rfl) rfl rfl ⟨cz_ BK598 0, cz_ BK598 1, cz_ BK598 2, cz_ BK584 0, cz_ BK584 1, cz_ BK584 2, cz_ BK590 0, cz_ BK590 1, cz_ BK590 2⟩ (fun hHeld => ?_); refine with_tabW spec_PlaceOfBall.tab13 spec_PlaceOfBall.bits13 (fun HT_ HW_ => ?_)
        generalize w71.drew = w72 at BK583 BK584 BK590 BK591 BK598 HB hHeld ⊢
        refine px_ HT_ 0 56 1 ?_
        refine px_ HT_ 1 57 3 ?_
        refine px_ HT_ 2 58 7 ?_
        refine px_ HT_ 6 62 71 ?_
        refine ta_ HT_ HW_ 3 (some 59) (bv_ 12 79) hHeld ?_ (hy := by rintro w' ⟨s0, s1, s2, s3, s4, s5, s6, s7, s8⟩; go_simp; with_reducible rfl)
        refine ta_ HT_ HW_ 4 (some 60) (bv_ 12 95) hHeld ?_ (hy := by rintro w' ⟨s0, s1, s2, s3, s4, s5, s6, s7, s8⟩; go_simp; with_reducible rfl)
        refine ta_ HT_ HW_ 7 (some 63) (bv_ 12 223) hHeld ?_ (hy := by rintro w' ⟨s0, s1, s2, s3, s4, s5, s6, s7, s8⟩; go_simp; with_reducible rfl)
        refine ta_ HT_ HW_ 8 (some 64) (bv_ 12 479) hHeld ?_ (hy := by rintro w' ⟨s0, s1, s2, s3, s4, s5, s6, s7, s8⟩; go_simp; with_reducible rfl)
        refine on_ HT_ 5 (some 61) (bv_ 12 511) (fun K hK => ?_)
        refine gs_ Try.func125 #[.int .i64 a0, .agg #[.int .i64 t594, .int .i64 t595, .int .i64 t596], .agg #[.int .i64 a2_0, .int .i64 a2_1, .int .i64 a2_2]] ?_
        with_reducible refine (spec_l02Distance.calls k2 a0 t594 t595 t596 a2_0 a2_1 a2_2 t599 _ A54.out).mono ?_
        rintro e w73 ⟨rfl, hb⟩
        refine ⟨_, rfl, ?_⟩
        replace BK583 := bb_ BK583 hb
        replace BK584 := bb_ BK584 hb
        replace BK590 := bb_ BK590 hb
        replace BK591 := bb_ BK591 hb
        replace BK598 := bb_ BK598 hb
        replace HB := bt_ HB hb
        try clear hb
        refine hK.out _ _ ⟨cz_ BK598 0, cz_ BK598 1, cz_ BK598 2, cz_ BK584 0, cz_ BK584 1, cz_ BK584 2, cz_ BK590 0, cz_ BK590 1, cz_ BK590 2⟩ (fun hHeld => ?_)
        clear hK K
        refine nm_ (some 61) ?_
        refine on_ HT_ 9 (some 65) (bv_ 12 1023) (fun K hK => ?_)
        refine gs_ Try.func125 #[.int .i64 a0, .agg #[.int .i64 x591000_2, .int .i64 x591001_2, .int .i64 x591002_2], .agg #[.int .i64 a2_0, .int .i64 a2_1, .int .i64 a2_2]] ?_
        with_reducible refine (spec_l02Distance.calls k2 a0 x591000_2 x591001_2 x591002_2 a2_0 a2_1 a2_2 t600 _ A55.out).mono ?_
        rintro e w74 ⟨rfl, hb⟩
        refine ⟨_, rfl, ?_⟩
        replace BK583 := bb_ BK583 hb
        replace BK584 := bb_ BK584 hb
        replace BK590 := bb_ BK590 hb
        replace BK591 := bb_ BK591 hb
        replace BK598 := bb_ BK598 hb
        replace HB := bt_ HB hb
        try clear hb
        refine hK.out _ _ ⟨cz_ BK598 0, cz_ BK598 1, cz_ BK598 2, cz_ BK584 0, cz_ BK584 1, cz_ BK584 2, cz_ BK590 0, cz_ BK590 1, cz_ BK590 2⟩ (fun hHeld => ?_)
        clear hK K
        refine nm_ (some 65) ?_
        refine px_ HT_ 10 66 2047 ?_
        refine px_ HT_ 11 67 4095 ?_
        refine done_ (done_of HT_.out (by kernel_rfl)) ?_
        obtain ⟨hcz75_0, hcz75_1, hcz75_2, hfz75_0, hfz75_1, hfz75_2⟩ := ch3_ BK590
        obtain ⟨hcz76_0, hcz76_1, hcz76_2, hfz76_0, hfz76_1, hfz76_2⟩ := ch3_ BK591
        obtain ⟨hcz77_0, hcz77_1, hcz77_2, hfz77_0, hfz77_1, hfz77_2⟩ := ch3_ BK598
        try go_wp2
        go_roundg k2
        case measure => have := HK1.out; have := HK2.out; omega
        case rel => exact ⟨(wrap64 (t592 + x15_2)), (true), (t594), (t595), (t596), (x591000_2), (x591001_2), (x591002_2), en_, en_, H', ⟨by have := HK1.out; have := HK2.out; omega⟩, bp_ BK583, bp_ BK584, bp_ BK590, bp_ BK591, bw_ HB⟩
       have H' := Aside0.mk H
       clear H
       have hnb78 := NB590_583.out
       have hnc78 := NB583_590.out
       have hnb79 := NB590_584.out
       have hnc79 := NB584_590.out
       have hnb80 := NB590_591.out
       have hnc80 := NB591_590.out
       obtain ⟨hcz81_0, hcz81_1, hcz81_2, hfz81_0, hfz81_1, hfz81_2⟩ := ch3_ BK590
       have hnb82 := NB591_583.out
       have hnc82 := NB583_591.out
       have hnb83 := NB591_584.out
       have hnc83 := NB584_591.out
       obtain ⟨hcz84_0, hcz84_1, hcz84_2, hfz84_0, hfz84_1, hfz84_2⟩ := ch3_ BK591
       try go_wp2_with (first | ((refine gc_ 126 ?_); refine ge_ 53 Try.func126 #[.int .i64 a0, .agg #[.int .i64 x591000_2, .int .i64 x591001_2, .int .i64 x591002_2], .agg #[.int .i64 x592000_2, .int .i64 x592001_2, .int .i64 x592002_2], .bool x12_2, .int .i64 x15_2] ?_; (with_reducible refine (spec_l07Next.calls k2 a0 x591000_2 x591001_2 x591002_2 x592000_2 x592001_2 x592002_2 x12_2 x15_2 t594 t595 t596 true _ A52.out).mono ?_); rintro e w85 ⟨rfl, hb⟩; refine ⟨_, rfl, ?_⟩; replace BK583 := bb_ BK583 hb; replace BK584 := bb_ BK584 hb; replace BK590 := bb_ BK590 hb; replace BK591 := bb_ BK591 hb; replace HB := bt_ HB hb; (try clear hb)) | ((refine gd_ 16 ?_); refine by_ 16 #[.int .i64 0, .int .i64 0, .int .i64 0] 25 HB ?_; intro gb598 hg w86 BK598 hb GW598 HB_; have NB583_598 := bm_ BK583 hg; have NB598_583 := bn_ BK583 hg; have NB584_598 := bm_ BK584 hg; have NB598_584 := bn_ BK584 hg; have NB590_598 := bm_ BK590 hg; have NB598_590 := bn_ BK590 hg; have NB591_598 := bm_ BK591 hg; have NB598_591 := bn_ BK591 hg; replace BK583 := bb_ BK583 hb; replace BK584 := bb_ BK584 hb; replace BK590 := bb_ BK590 hb; replace BK591 := bb_ BK591 hb; replace HB := HB_; clear hb hg; have hnb87 := NB598_583.out; have hnc87 := NB583_598.out; have hnb88 := NB598_584.out; have hnc88 := NB584_598.out; have hnb89 := NB598_590.out; have hnc89 := NB590_598.out; have hnb90 := NB598_591.out; have hnc90 := NB591_598.out; obtain ⟨hcz91_0, hcz91_1, hcz91_2, hfz91_0, hfz91_1, hfz91_2⟩ := ch3_ BK598))
       have n0_ : Aside0 ((((w86.setCell ⟨gb598, 0, none⟩ (.int .i64 t594)).setCell ⟨gb598, 1, none⟩ (.int .i64 t595)).setCell ⟨gb598, 2, none⟩ (.int .i64 t596)).heap[gb583]? = some (.cells #[.int .i64 a1_0, .int .i64 a1_1, .int .i64 a1_2] 25 (0, 0))) := fl_ BK583 NB583_598
       have n1_ : Aside0 ((((w86.setCell ⟨gb598, 0, none⟩ (.int .i64 t594)).setCell ⟨gb598, 1, none⟩ (.int .i64 t595)).setCell ⟨gb598, 2, none⟩ (.int .i64 t596)).heap[gb584]? = some (.cells #[.int .i64 a2_0, .int .i64 a2_1, .int .i64 a2_2] 25 (0, 0))) := fl_ BK584 NB584_598
       have n2_ : Aside0 ((((w86.setCell ⟨gb598, 0, none⟩ (.int .i64 t594)).setCell ⟨gb598, 1, none⟩ (.int .i64 t595)).setCell ⟨gb598, 2, none⟩ (.int .i64 t596)).heap[gb590]? = some (.cells #[.int .i64 x591000_2, .int .i64 x591001_2, .int .i64 x591002_2] 25 (0, 0))) := fl_ BK590 NB590_598
       have n3_ : Aside0 ((((w86.setCell ⟨gb598, 0, none⟩ (.int .i64 t594)).setCell ⟨gb598, 1, none⟩ (.int .i64 t595)).setCell ⟨gb598, 2, none⟩ (.int .i64 t596)).heap[gb591]? = some (.cells #[.int .i64 x592000_2, .int .i64 x592001_2, .int .i64 x592002_2] 25 (0, 0))) := fl_ BK591 NB591_598
       have n4_ : Aside0 ((((w86.setCell ⟨gb598, 0, none⟩ (.int .i64 t594)).setCell ⟨gb598, 1, none⟩ (.int .i64 t595)).setCell ⟨gb598, 2, none⟩ (.int .i64 t596)).heap[gb598]? = some (.cells #[.int .i64 t594, .int .i64 t595, .int .i64 t596] 25 (0, 0))) := bp_ BK598
       have n5_ : Aside0 (Below w.heap.size w (((w86.setCell ⟨gb598, 0, none⟩ (.int .i64 t594)).setCell ⟨gb598, 1, none⟩ (.int .i64 t595)).setCell ⟨gb598, 2, none⟩ (.int .i64 t596))) := bw_ HB
       (try clear BK583)
       (try clear BK584)
       (try clear BK590)
       (try clear BK591)
       (try clear BK598)
       (try clear HB)
       generalize (((w86.setCell ⟨gb598, 0, none⟩ (.int .i64 t594)).setCell ⟨gb598, 1, none⟩ (.int .i64 t595)).setCell ⟨gb598, 2, none⟩ (.int .i64 t596)) = w92 at n0_ n1_ n2_ n3_ n4_ n5_ ⊢
       have BK583 := n0_
       have BK584 := n1_
       have BK590 := n2_
       have BK591 := n3_
       have BK598 := n4_
       have HB := n5_
       clear n0_ n1_ n2_ n3_ n4_ n5_
       replace BK583 := bd_ BK583
       replace BK584 := bd_ BK584
       replace BK590 := bd_ BK590
       replace BK591 := bd_ BK591
       replace BK598 := bd_ BK598
       replace HB := be_ HB
       refine start_ (n := 12) (S := fun w' => w'.cell? ⟨gb598, 0, none⟩ = some (.int .i64 t594) ∧ w'.cell? ⟨gb598, 1, none⟩ = some (.int .i64 t595) ∧ w'.cell? ⟨gb598, 2, none⟩ = some (.int .i64 t596) ∧ w'.cell? ⟨gb584, 0, none⟩ = some (.int .i64 a2_0) ∧ w'.cell? ⟨gb584, 1, none⟩ = some (.int .i64 a2_1) ∧ w'.cell? ⟨gb584, 2, none⟩ = some (.int .i64 a2_2) ∧ w'.cell? ⟨gb590, 0, none⟩ = some (.int .i64 x591000_2) ∧ w'.cell? ⟨gb590, 1, none⟩ = some (.int .i64 x591001_2) ∧ w'.cell? ⟨gb590, 2, none⟩ = some (.int .i64 x591002_2)) (ds := []) (bv_ 12 0) (by kernel_rfl) rfl rfl ⟨cz_ BK598 0, cz_ BK598 1, cz_ BK598 2, cz_ BK584 0, cz_ BK584 1, cz_ BK584 2, cz_ BK590 0, cz_ BK590 1, cz_ BK590 2⟩ (fun hHeld => ?_); refine with_tabW spec_PlaceOfBall.tab13 spec_PlaceOfBall.bits13 (fun HT_ HW_ => ?_)
       generalize w92.drew = w93 at BK583 BK584 BK590 BK591 BK598 HB hHeld ⊢
       refine px_ HT_ 0 56 1 ?_
       refine px_ HT_ 1 57 3 ?_
       refine px_ HT_ 2 58 7 ?_
       refine px_ HT_ 6 62 71 ?_
       refine ta_ HT_ HW_ 3 (some 59) (bv_ 12 79) hHeld ?_ (hy := by rintro w' ⟨s0, s1, s2, s3, s4, s5, s6, s7, s8⟩; go_simp; with_reducible rfl)
       refine ta_ HT_ HW_ 4 (some 60) (bv_ 12 95) hHeld ?_ (hy := by rintro w' ⟨s0, s1, s2, s3, s4, s5, s6, s7, s8⟩; go_simp; with_reducible rfl)
       refine ta_ HT_ HW_ 7 (some 63) (bv_ 12 223) hHeld ?_ (hy := by rintro w' ⟨s0, s1, s2, s3, s4, s5, s6, s7, s8⟩; go_simp; with_reducible rfl)
       refine ta_ HT_ HW_ 8 (some 64) (bv_ 12 479) hHeld ?_ (hy := by rintro w' ⟨s0, s1, s2, s3, s4, s5, s6, s7, s8⟩; go_simp; with_reducible rfl)
       refine on_ HT_ 5 (some 61) (bv_ 12 511) (fun K hK => ?_)
       refine gs_ Try.func125 #[.int .i64 a0, .agg #[.int .i64 t594, .int .i64 t595, .int .i64 t596], .agg #[.int .i64 a2_0, .int .i64 a2_1, .int .i64 a2_2]] ?_
       with_reducible refine (spec_l02Distance.calls k2 a0 t594 t595 t596 a2_0 a2_1 a2_2 t599 _ A54.out).mono ?_
       rintro e w94 ⟨rfl, hb⟩
       refine ⟨_, rfl, ?_⟩
       replace BK583 := bb_ BK583 hb
       replace BK584 := bb_ BK584 hb
       replace BK590 := bb_ BK590 hb
       replace BK591 := bb_ BK591 hb
       replace BK598 := bb_ BK598 hb
       replace HB := bt_ HB hb
       try clear hb
       refine hK.out _ _ ⟨cz_ BK598 0, cz_ BK598 1, cz_ BK598 2, cz_ BK584 0, cz_ BK584 1, cz_ BK584 2, cz_ BK590 0, cz_ BK590 1, cz_ BK590 2⟩ (fun hHeld => ?_)
       clear hK K
       refine nm_ (some 61) ?_
       refine on_ HT_ 9 (some 65) (bv_ 12 1023) (fun K hK => ?_)
       refine gs_ Try.func125 #[.int .i64 a0, .agg #[.int .i64 x591000_2, .int .i64 x591001_2, .int .i64 x591002_2], .agg #[.int .i64 a2_0, .int .i64 a2_1, .int .i64 a2_2]] ?_
       with_reducible refine (spec_l02Distance.calls k2 a0 x591000_2 x591001_2 x591002_2 a2_0 a2_1 a2_2 t600 _ A55.out).mono ?_
       rintro e w95 ⟨rfl, hb⟩
       refine ⟨_, rfl, ?_⟩
       replace BK583 := bb_ BK583 hb
       replace BK584 := bb_ BK584 hb
       replace BK590 := bb_ BK590 hb
       replace BK591 := bb_ BK591 hb
       replace BK598 := bb_ BK598 hb
       replace HB := bt_ HB hb
       try clear hb
       refine hK.out _ _ ⟨cz_ BK598 0, cz_ BK598 1, cz_ BK598 2, cz_ BK584 0, cz_ BK584 1, cz_ BK584 2, cz_ BK590 0, cz_ BK590 1, cz_ BK590 2⟩ (fun hHeld => ?_)
       clear hK K
       refine nm_ (some 65) ?_
       refine px_ HT_ 10 66 2047 ?_
       refine px_ HT_ 11 67 4095 ?_
       refine done_ (done_of HT_.out (by kernel_rfl)) ?_
       try go_wp2
       go_roundg k2
       case measure => have := HK1.out; have := HK2.out; omega
       case rel => exact ⟨(x9_2), (x12_2), (wrap64 (x15_2 + 1)), (x591000_2), (x591001_2), (x591002_2), (x592000_2), (x592001_2), (x592002_2), en_, en_, en_, H', ⟨by have := HK1.out; have := HK2.out; omega⟩, bl_ BK583, bl_ BK584, bl_ BK590, bl_ BK591, bw_ HB⟩
      have H' := Aside0.mk H
      clear H
      have hnb96 := NB590_583.out
      have hnc96 := NB583_590.out
      have hnb97 := NB590_584.out
      have hnc97 := NB584_590.out
      have hnb98 := NB590_591.out
      have hnc98 := NB591_590.out
      obtain ⟨hcz99_0, hcz99_1, hcz99_2, hfz99_0, hfz99_1, hfz99_2⟩ := ch3_ BK590
      have hnb100 := NB591_583.out
      have hnc100 := NB583_591.out
      have hnb101 := NB591_584.out
      have hnc101 := NB584_591.out
      obtain ⟨hcz102_0, hcz102_1, hcz102_2, hfz102_0, hfz102_1, hfz102_2⟩ := ch3_ BK591
      try go_wp2_with (first | ((refine gc_ 126 ?_); refine ge_ 53 Try.func126 #[.int .i64 a0, .agg #[.int .i64 x591000_2, .int .i64 x591001_2, .int .i64 x591002_2], .agg #[.int .i64 x592000_2, .int .i64 x592001_2, .int .i64 x592002_2], .bool x12_2, .int .i64 x15_2] ?_; (with_reducible refine (spec_l07Next.calls k2 a0 x591000_2 x591001_2 x591002_2 x592000_2 x592001_2 x592002_2 x12_2 x15_2 t594 t595 t596 false _ A52.out).mono ?_); rintro e w103 ⟨rfl, hb⟩; refine ⟨_, rfl, ?_⟩; replace BK583 := bb_ BK583 hb; replace BK584 := bb_ BK584 hb; replace BK590 := bb_ BK590 hb; replace BK591 := bb_ BK591 hb; replace HB := bt_ HB hb; (try clear hb)) | ((refine gd_ 16 ?_); refine by_ 16 #[.int .i64 0, .int .i64 0, .int .i64 0] 25 HB ?_; intro gb598 hg w104 BK598 hb GW598 HB_; have NB583_598 := bm_ BK583 hg; have NB598_583 := bn_ BK583 hg; have NB584_598 := bm_ BK584 hg; have NB598_584 := bn_ BK584 hg; have NB590_598 := bm_ BK590 hg; have NB598_590 := bn_ BK590 hg; have NB591_598 := bm_ BK591 hg; have NB598_591 := bn_ BK591 hg; replace BK583 := bb_ BK583 hb; replace BK584 := bb_ BK584 hb; replace BK590 := bb_ BK590 hb; replace BK591 := bb_ BK591 hb; replace HB := HB_; clear hb hg; have hnb105 := NB598_583.out; have hnc105 := NB583_598.out; have hnb106 := NB598_584.out; have hnc106 := NB584_598.out; have hnb107 := NB598_590.out; have hnc107 := NB590_598.out; have hnb108 := NB598_591.out; have hnc108 := NB591_598.out; obtain ⟨hcz109_0, hcz109_1, hcz109_2, hfz109_0, hfz109_1, hfz109_2⟩ := ch3_ BK598))
      have n0_ : Aside0 ((((w104.setCell ⟨gb598, 0, none⟩ (.int .i64 t594)).setCell ⟨gb598, 1, none⟩ (.int .i64 t595)).setCell ⟨gb598, 2, none⟩ (.int .i64 t596)).heap[gb583]? = some (.cells #[.int .i64 a1_0, .int .i64 a1_1, .int .i64 a1_2] 25 (0, 0))) := fl_ BK583 NB583_598
      have n1_ : Aside0 ((((w104.setCell ⟨gb598, 0, none⟩ (.int .i64 t594)).setCell ⟨gb598, 1, none⟩ (.int .i64 t595)).setCell ⟨gb598, 2, none⟩ (.int .i64 t596)).heap[gb584]? = some (.cells #[.int .i64 a2_0, .int .i64 a2_1, .int .i64 a2_2] 25 (0, 0))) := fl_ BK584 NB584_598
      have n2_ : Aside0 ((((w104.setCell ⟨gb598, 0, none⟩ (.int .i64 t594)).setCell ⟨gb598, 1, none⟩ (.int .i64 t595)).setCell ⟨gb598, 2, none⟩ (.int .i64 t596)).heap[gb590]? = some (.cells #[.int .i64 x591000_2, .int .i64 x591001_2, .int .i64 x591002_2] 25 (0, 0))) := fl_ BK590 NB590_598
      have n3_ : Aside0 ((((w104.setCell ⟨gb598, 0, none⟩ (.int .i64 t594)).setCell ⟨gb598, 1, none⟩ (.int .i64 t595)).setCell ⟨gb598, 2, none⟩ (.int .i64 t596)).heap[gb591]? = some (.cells #[.int .i64 x592000_2, .int .i64 x592001_2, .int .i64 x592002_2] 25 (0, 0))) := fl_ BK591 NB591_598
      have n4_ : Aside0 ((((w104.setCell ⟨gb598, 0, none⟩ (.int .i64 t594)).setCell ⟨gb598, 1, none⟩ (.int .i64 t595)).setCell ⟨gb598, 2, none⟩ (.int .i64 t596)).heap[gb598]? = some (.cells #[.int .i64 t594, .int .i64 t595, .int .i64 t596] 25 (0, 0))) := bp_ BK598
      have n5_ : Aside0 (Below w.heap.size w (((w104.setCell ⟨gb598, 0, none⟩ (.int .i64 t594)).setCell ⟨gb598, 1, none⟩ (.int .i64 t595)).setCell ⟨gb598, 2, none⟩ (.int .i64 t596))) := bw_ HB
      (try clear BK583)
      (try clear BK584)
      (try clear BK590)
      (try clear BK591)
      (try clear BK598)
      (try clear HB)
      generalize (((w104.setCell ⟨gb598, 0, none⟩ (.int .i64 t594)).setCell ⟨gb598, 1, none⟩ (.int .i64 t595)).setCell ⟨gb598, 2, none⟩ (.int .i64 t596)) = w110 at n0_ n1_ n2_ n3_ n4_ n5_ ⊢
      have BK583 := n0_
      have BK584 := n1_
      have BK590 := n2_
      have BK591 := n3_
      have BK598 := n4_
      have HB := n5_
      clear n0_ n1_ n2_ n3_ n4_ n5_
      replace BK583 := bd_ BK583
      replace BK584 := bd_ BK584
      replace BK590 := bd_ BK590
      replace BK591 := bd_ BK591
      replace BK598 := bd_ BK598
      replace HB := be_ HB
      refine start_ (n := 12) (S := fun w' => True) (ds := []) (bv_ 12 0) (by kernel_rfl) rfl rfl trivial (fun hHeld => ?_); refine with_tabW spec_PlaceOfBall.tab13 spec_PlaceOfBall.bits13 (fun HT_ HW_ => ?_)
      generalize w110.drew = w111 at BK583 BK584 BK590 BK591 BK598 HB hHeld ⊢
      refine px_ HT_ 0 56 1 ?_
      refine px_ HT_ 1 57 3 ?_
      refine pv_ HT_ 2 (some 58) (bv_ 12 7) ?_
      refine pv_ HT_ 3 (some 59) (bv_ 12 15) ?_
      refine pv_ HT_ 4 (some 60) (bv_ 12 31) ?_
      refine pv_ HT_ 5 (some 61) (bv_ 12 63) ?_
      refine pv_ HT_ 6 (some 62) (bv_ 12 127) ?_
      refine pv_ HT_ 7 (some 63) (bv_ 12 255) ?_
      refine pv_ HT_ 8 (some 64) (bv_ 12 511) ?_
      refine pv_ HT_ 9 (some 65) (bv_ 12 1023) ?_
      refine pv_ HT_ 10 (some 66) (bv_ 12 2047) ?_
      refine px_ HT_ 11 67 4095 ?_
      refine done_ (done_of HT_.out (by kernel_rfl)) ?_
      try go_wp2
      go_roundg k2
      case measure => have := HK1.out; have := HK2.out; omega
      case rel => exact ⟨(x9_2), (x12_2), (wrap64 (x15_2 + 1)), (x591000_2), (x591001_2), (x591002_2), (x592000_2), (x592001_2), (x592002_2), en_, en_, en_, H', ⟨by have := HK1.out; have := HK2.out; omega⟩, bl_ BK583, bl_ BK584, bl_ BK590, bl_ BK591, bw_ HB⟩
     have H' := Aside0.mk H
     clear H
     go_wp2
     go_roundg k2
     case measure => have := HK1.out; have := HK2.out; omega
     case rel => exact ⟨(x9_2), (x12_2), (x591000_2), (x591001_2), (x591002_2), (x592000_2), (x592001_2), (x592002_2), en_, en_, H', ⟨by have := HK1.out; have := HK2.out; omega⟩, bl_ BK583, bl_ BK584, bl_ BK590, bl_ BK591, bw_ HB⟩
   rw [if_neg c42] at H
   have c42b0 : (!(x591000_1 == a2_0) || (!(x591001_1 == a2_1) || (!(x591002_1 == a2_2)))) = false := by simpa using c42
   clear c42
   simp only [Option.some.injEq, Prod.mk.injEq] at H
   obtain ⟨rfl, rfl⟩ := H
   have hnb112 := NB590_583.out
   have hnc112 := NB583_590.out
   have hnb113 := NB590_584.out
   have hnc113 := NB584_590.out
   have hnb114 := NB590_591.out
   have hnc114 := NB591_590.out
   obtain ⟨hcz115_0, hcz115_1, hcz115_2, hfz115_0, hfz115_1, hfz115_2⟩ := ch3_ BK590
   have hnb116 := NB584_583.out
   have hnc116 := NB583_584.out
   have hnb117 := NB584_591.out
   have hnc117 := NB591_584.out
   obtain ⟨hcz118_0, hcz118_1, hcz118_2, hfz118_0, hfz118_1, hfz118_2⟩ := ch3_ BK584
   go_wp2
   go_ret2
   exact ⟨es_, (bw_ HB).out⟩
 simp only [Option.some.injEq, Prod.mk.injEq] at H
 obtain ⟨rfl, rfl⟩ := H
 go_enter Try.func52, Try.ntmps52
 go_wp2_with (first | ((refine gd_ 4 ?_); refine by_ 4 #[.int .i64 a1_0, .int .i64 a1_1, .int .i64 a1_2] 25 HB ?_; intro gb583 hg w119 BK583 hb GW583 HB_; replace HB := HB_; clear hb hg) | ((refine gd_ 5 ?_); refine by_ 5 #[.int .i64 a2_0, .int .i64 a2_1, .int .i64 a2_2] 25 HB ?_; intro gb584 hg w120 BK584 hb GW584 HB_; have NB583_584 := bm_ BK583 hg; have NB584_583 := bn_ BK583 hg; replace BK583 := bb_ BK583 hb; replace HB := HB_; clear hb hg; have hnb121 := NB583_584.out; have hnc121 := NB584_583.out; obtain ⟨hcz122_0, hcz122_1, hcz122_2, hfz122_0, hfz122_1, hfz122_2⟩ := ch3_ BK583; obtain ⟨hcz123_0, hcz123_1, hcz123_2, hfz123_0, hfz123_1, hfz123_2⟩ := ch3_ BK584) | ((refine gd_ 21 ?_); refine Kd.R_lit k25 _ 25 ?hg (N := 21) ?hd (xs := ([(⟨a1_0, a1_1, a1_2⟩ : S25), (⟨a2_0, a2_1, a2_2⟩ : S25)] : List (S25))) (inner := [.int .i64 a1_0, .int .i64 a1_1, .int .i64 a1_2, .int .i64 a2_0, .int .i64 a2_1, .int .i64 a2_2]) (ok := fun _ => True) (okp := fun _ => True) ?hr ?hp (fun _ hk => hk) trivial (Below.refl _ _) (Nat.le_refl _) (by simp) ?_; (case hd => rfl); (case hg => rfl); (case hr => first | (go_simp; done) | (go_simp; rfl)); (case hp => exact (Reps.c3 (show Kd.M k25 _ _ _ (⟨a1_0, a1_1, a1_2⟩ : S25) [.int .i64 a1_0, .int .i64 a1_1, .int .i64 a1_2] from (k25_mkM _ _ _ (⟨a1_0, a1_1, a1_2⟩ : S25) )) (Reps.c3 (show Kd.M k25 _ _ _ (⟨a2_0, a2_1, a2_2⟩ : S25) [.int .i64 a2_0, .int .i64 a2_1, .int .i64 a2_2] from (k25_mkM _ _ _ (⟨a2_0, a2_1, a2_2⟩ : S25) )) (Reps.none _ _)))); intro v586 w124 ho125 hb hg_ hnew_; clear hg_ hnew_; (first | rw [← Ny585.out] at ho125 | (simp only [Int.reduceToNat] at ho125; rw [← Ny585.out] at ho125)); have HO587 := Aside0.mk (Kd.R_lower (Kd.R_newB (Kd.R_newB ho125 (g := gb583) (o := .cells #[.int .i64 a1_0, .int .i64 a1_1, .int .i64 a1_2] 25 (0, 0)) (bl_ BK583).out) (g := gb584) (o := .cells #[.int .i64 a2_0, .int .i64 a2_1, .int .i64 a2_2] 25 (0, 0)) (bl_ BK584).out) (below_size (bw_ HB).out)); replace BK583 := bb_ BK583 hb; replace BK584 := bb_ BK584 hb; replace HB := bt_ HB hb; clear hb ho125; obtain ⟨Ao126, co126, eo126⟩ := Kd.R_slice HO587.out; subst eo126) | ((refine gc_ 88 ?_); refine ge_ 22 Try.func88 #[.int .i64 a0, .slice Ao126 y585.length co126] ?_; (with_reducible refine (spec_l01Code.calls k a0 _ _ y585 t588 _ ?side1 ?side2 A4.out).mono ?_); (case side1 => exact ca_ (Kd.R_reads' HO587.out).2.2); (case side2 => exact (Kd.R_reads' HO587.out).2.1); rintro e w127 ⟨rfl, hb⟩; refine ⟨_, rfl, ?_⟩; replace HO587 := rb_ HO587 hb; replace BK583 := bb_ BK583 hb; replace BK584 := bb_ BK584 hb; replace HB := bt_ HB hb; (try clear hb)))
 go_ret2
 exact ⟨es_, (bw_ HB).out⟩
end Go.Proofs.Ytgoeelhiffbjlaa.QP
