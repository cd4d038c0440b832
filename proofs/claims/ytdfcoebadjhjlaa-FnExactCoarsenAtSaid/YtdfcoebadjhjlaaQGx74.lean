import Derived.Test.YtdfcoebadjhjlaaQGx6
import Derived.Test.YtdfcoebadjhjlaaQGx10
import Derived.Test.YtdfcoebadjhjlaaQGx12
import Derived.Test.YtdfcoebadjhjlaaQGx19
import Derived.Test.YtdfcoebadjhjlaaQGx31
import Derived.Test.YtdfcoebadjhjlaaQGx71
import Derived.Test.YtdfcoebadjhjlaaQGx73
namespace Go.Proofs.Ytdfcoebadjhjlaa.QG
open Go.RowKit Go.Proofs.YtdfcoebadjhjlaaW.PrintWords Go.Proofs.YtdfcoebadjhjlaaW.PrintLast Go.Proofs.YtdfcoebadjhjlaaW.PrintMore
attribute [local go_sem] isSome_setCell max2_int min2_int max_two min_two max_three min_three max_four min_four
set_option linter.unusedVariables false
set_option linter.unusedSimpArgs false

/-! ### laws_FnExactCoarsenAt: function 4 -/
def laws_FnExactCoarsenAt.f (k : Nat) (a0 a1_0 a1_1 a1_2 : Int) (l1_3 : List (S103)) (a2_0 a2_1 a2_2 : Int) : Option (Bool) := (laws_szMeasure.f a1_0 a1_1 a1_2 l1_3 1048576).bind fun t401 => (if t401 < 0 then (some true) else ((laws_toMeasure.f k a1_0 a1_1 a1_2 l1_3).bind fun bt402 => ((laws_toBall.f a2_0 a2_1 a2_2).bind fun bt408 => ((spec_CoarsenAt.f k a0 bt402.1 bt402.2.1 bt402.2.2.1 bt402.2.2.2 bt408.1 bt408.2.1 bt408.2.2).bind fun bt411 => ((laws_toMeasure.f k a1_0 a1_1 a1_2 l1_3).bind fun bt419 => ((laws_toBall.f a2_0 a2_1 a2_2).bind fun bt426 => ((impl_CoarsenAt.f k a0 bt419.1 bt419.2.1 bt419.2.2.1 bt419.2.2.2 bt426.1 bt426.2.1 bt426.2.2).bind fun bt429 => ((laws_eqMeasure.f k bt429.1 bt429.2.1 bt429.2.2.1 bt429.2.2.2.1 bt411.1 bt411.2.1 bt411.2.2.1 bt411.2.2.2.1).bind fun t437 => (if t437 = true then (if bt429.2.2.2.2 = bt411.2.2.2.2 then ((laws_toMeasure.f k a1_0 a1_1 a1_2 l1_3).bind fun bt438 => ((laws_eqMeasure.f k bt419.1 bt419.2.1 bt419.2.2.1 bt419.2.2.2 bt438.1 bt438.2.1 bt438.2.2.1 bt438.2.2.2).bind fun t444 => (if t444 = true then ((laws_markMeasure.f k bt419.1 bt419.2.1 bt419.2.2.1 bt419.2.2.2 1).bind fun bt445 => (if bt445.1 < 0 then (none) else ((laws_eqMeasure.f k bt429.1 bt429.2.1 bt429.2.2.1 bt429.2.2.2.1 bt411.1 bt411.2.1 bt411.2.2.1 bt411.2.2.2.1).bind fun t447 => (if t447 = true then ((laws_markMeasure.f k bt429.1 bt429.2.1 bt429.2.2.1 bt429.2.2.2.1 1).bind fun bt448 => ((laws_heldMeasure.f k bt429.1 bt429.2.1 bt429.2.2.1 bt448.2 1).bind fun t450 => (if t450 < 0 then (none) else (if t450 = bt448.1 then ((laws_toMeasure.f k a1_0 a1_1 a1_2 l1_3).bind fun bt451 => ((laws_toBall.f a2_0 a2_1 a2_2).bind fun bt457 => ((impl_CoarsenAt.f k a0 bt451.1 bt451.2.1 bt451.2.2.1 bt451.2.2.2 bt457.1 bt457.2.1 bt457.2.2).bind fun bt460 => ((laws_eqMeasure.f k bt460.1 bt460.2.1 bt460.2.2.1 bt460.2.2.2.1 bt411.1 bt411.2.1 bt411.2.2.1 bt411.2.2.2.1).bind fun t468 => (if t468 = true then (if bt460.2.2.2.2 = bt411.2.2.2.2 then ((laws_heldMeasure.f k bt429.1 bt429.2.1 bt429.2.2.1 bt448.2 1).bind fun t469 => (if t469 < 0 then (none) else (if t469 = bt448.1 then (some true) else (none)))) else (none)) else (none)))))) else (none))))) else (none))))) else (none)))) else (none)) else (none))))))))))
def laws_FnExactCoarsenAt.T5 : Bool × List (List Nat × List Nat) := (true, [([], []), ([], []), ([1], [1]), ([], []), ([3, 2], [3]), ([0, 2, 4, 4], [0, 2, 4]), ([5], [5]), ([6], [6]), ([6], [6]), ([], []), ([9, 7, 5, 0, 1, 2, 3, 4, 5, 6, 7, 9], [7, 9]), ([8, 10, 0, 1, 2, 3, 4, 5, 6, 7, 8, 9, 10], [8])])
def laws_FnExactCoarsenAt.B5 : List Nat := [0, 0, 2, 0, 14, 31, 63, 127, 127, 0, 767, 2047]
theorem laws_FnExactCoarsenAt.tab5 : rtab .any (opsOf Try.f4 5) = laws_FnExactCoarsenAt.T5 := by kernel_rfl
theorem laws_FnExactCoarsenAt.bits5 : waitsOk laws_FnExactCoarsenAt.T5.2 laws_FnExactCoarsenAt.B5 = true := by kernel_rfl
def laws_FnExactCoarsenAt.T7 : Bool × List (List Nat × List Nat) := (true, [([], []), ([], []), ([], []), ([2], [2]), ([0, 1, 3, 3], [0, 1, 3]), ([4], [4]), ([5], [5]), ([5], [5]), ([], []), ([8, 6, 4, 0, 1, 2, 3, 4, 5, 6, 8], [6, 8]), ([7, 9, 0, 1, 2, 3, 4, 5, 6, 7, 8, 9], [7])])
def laws_FnExactCoarsenAt.B7 : List Nat := [0, 0, 0, 4, 15, 31, 63, 63, 0, 383, 1023]
theorem laws_FnExactCoarsenAt.tab7 : rtab .any (opsOf Try.f4 7) = laws_FnExactCoarsenAt.T7 := by kernel_rfl
theorem laws_FnExactCoarsenAt.bits7 : waitsOk laws_FnExactCoarsenAt.T7.2 laws_FnExactCoarsenAt.B7 = true := by kernel_rfl
def laws_FnExactCoarsenAt.T24 : Bool × List (List Nat × List Nat) := (true, [([], []), ([], []), ([1], [1]), ([], []), ([3, 2], [3]), ([0, 2, 4, 4], [0, 2, 4]), ([5], [5]), ([6], [6]), ([6], [6]), ([], []), ([9, 7, 5, 0, 1, 2, 3, 4, 5, 6, 7, 9], [7, 9]), ([8, 10, 0, 1, 2, 3, 4, 5, 6, 7, 8, 9, 10], [8])])
def laws_FnExactCoarsenAt.B24 : List Nat := [0, 0, 2, 0, 14, 31, 63, 127, 127, 0, 767, 2047]
theorem laws_FnExactCoarsenAt.tab24 : rtab .any (opsOf Try.f4 24) = laws_FnExactCoarsenAt.T24 := by kernel_rfl
theorem laws_FnExactCoarsenAt.bits24 : waitsOk laws_FnExactCoarsenAt.T24.2 laws_FnExactCoarsenAt.B24 = true := by kernel_rfl
set_option maxHeartbeats 8000000 in
set_option maxRecDepth 100000 in
theorem laws_FnExactCoarsenAt.calls (k : Nat) (a0 a1_0 a1_1 a1_2 : Int) (A1_3 : Option Addr) (c1_3 : Nat) (l1_3 : List (S103)) (a2_0 a2_1 a2_2 : Int) (r : Bool) (w : World) (hr1_3 : Kd.C k103 w A1_3 l1_3.length l1_3) (hc1_3 : l1_3.length ≤ c1_3) (h : laws_FnExactCoarsenAt.f k a0 a1_0 a1_1 a1_2 l1_3 a2_0 a2_1 a2_2 = some r) :
  Calls Try.prog 4 #[.int .i64 a0, .agg #[.int .i64 a1_0, .int .i64 a1_1, .int .i64 a1_2, .slice A1_3 l1_3.length c1_3], .agg #[.int .i64 a2_0, .int .i64 a2_1, .int .i64 a2_2]] w fun e w' => e = .returned (.bool r) ∧ Below w.heap.size w w' := by
 have hu26 := Try.underlying26
 have hu23 := Try.underlying23
 have hu34 := Try.underlying34
 have HR1_3 := Aside0.mk hr1_3
 have HC1_3 := Aside0.mk hc1_3
 clear hr1_3 hc1_3
 have HB := Aside0.mk (Below.refl w.heap.size w)
 unfold laws_FnExactCoarsenAt.f at h
 have H := h
 clear h
 replace H := oc_ H
 obtain ⟨t401, A4, H⟩ := H
 replace H := il_ H
 rcases H with ⟨c5b0, H⟩ | ⟨c5b0, H⟩
 ·obtain rfl := si_ H
  go_enter Try.func4, Try.ntmps4
  go_wp2_with (first | ((refine gd_ 4 ?_); refine by_ 4 #[.int .i64 a1_0, .int .i64 a1_1, .int .i64 a1_2, .slice A1_3 l1_3.length c1_3] 26 HB ?_; intro gb399 hg w6 BK399 hb GW399 HB_; replace HB := HB_; clear hb hg) | ((refine gd_ 5 ?_); refine by_ 5 #[.int .i64 a2_0, .int .i64 a2_1, .int .i64 a2_2] 23 HB ?_; intro gb400 hg w7 BK400 hb GW400 HB_; have NB399_400 := bm_ BK399 hg; have NB400_399 := bn_ BK399 hg; replace BK399 := bb_ BK399 hb; replace HB := HB_; clear hb hg; have hnb8 := NB399_400.out; have hnc8 := NB400_399.out; obtain ⟨hcz9_0, hcz9_1, hcz9_2, hcz9_3, hfz9_0, hfz9_1, hfz9_2, hfz9_3⟩ := ch4_ BK399) | ((refine gc_ 7 ?_); refine ge_ 20 Try.func7 #[.agg #[.int .i64 a1_0, .int .i64 a1_1, .int .i64 a1_2, .slice A1_3 l1_3.length c1_3], .int .i64 1048576] ?_; (with_reducible refine (laws_szMeasure.calls a1_0 a1_1 a1_2 _ _ l1_3 1048576 t401 _ ?side1 ?side2 A4.out).mono ?_); (case side1 => exact ca_ (Kd.C_below HR1_3.out HB.out)); (case side2 => exact HC1_3.out); rintro e w10 ⟨rfl, hb⟩; refine ⟨_, rfl, ?_⟩; replace BK399 := bb_ BK399 hb; replace BK400 := bb_ BK400 hb; replace HB := bt_ HB hb; (try clear hb)))
  go_ret
  exact ⟨es_, (bw_ HB).out⟩
 replace H := oc_ H
 obtain ⟨⟨t402, t403, t404, t405⟩, A11, H⟩ := H
 replace H := oc_ H
 obtain ⟨⟨t408, t409, t410⟩, A12, H⟩ := H
 replace H := oc_ H
 obtain ⟨⟨t411, t412, t413, t414, t417⟩, A13, H⟩ := H
 replace H := oc_ H
 obtain ⟨⟨t419, t420, t421, t422⟩, A14, H⟩ := H
 replace H := oc_ H
 obtain ⟨⟨t426, t427, t428⟩, A15, H⟩ := H
 replace H := oc_ H
 obtain ⟨⟨t429, t430, t431, t432, t435⟩, A16, H⟩ := H
 replace H := oc_ H
 obtain ⟨t437, A17, H⟩ := H
 replace H := ibn_ H
 obtain ⟨rfl, H⟩ := H
 replace H := ien_ H
 obtain ⟨c19b0, c19b1, H⟩ := H
 replace H := oc_ H
 obtain ⟨⟨t438, t439, t440, t441⟩, A20, H⟩ := H
 replace H := oc_ H
 obtain ⟨t444, A21, H⟩ := H
 replace H := ibn_ H
 obtain ⟨rfl, H⟩ := H
 replace H := oc_ H
 obtain ⟨⟨t445, t446⟩, A23, H⟩ := H
 replace H := ilf_ H
 obtain ⟨c24b0, H⟩ := H
 replace H := oc_ H
 obtain ⟨t447, A25, H⟩ := H
 replace H := ibn_ H
 obtain ⟨rfl, H⟩ := H
 replace H := oc_ H
 obtain ⟨⟨t448, t449⟩, A27, H⟩ := H
 replace H := oc_ H
 obtain ⟨t450, A28, H⟩ := H
 replace H := ilf_ H
 obtain ⟨c29b0, H⟩ := H
 replace H := ien_ H
 obtain ⟨c30b0, c30b1, H⟩ := H
 replace H := oc_ H
 obtain ⟨⟨t451, t452, t453, t454⟩, A31, H⟩ := H
 replace H := oc_ H
 obtain ⟨⟨t457, t458, t459⟩, A32, H⟩ := H
 replace H := oc_ H
 obtain ⟨⟨t460, t461, t462, t463, t466⟩, A33, H⟩ := H
 replace H := oc_ H
 obtain ⟨t468, A34, H⟩ := H
 replace H := ibn_ H
 obtain ⟨rfl, H⟩ := H
 replace H := ien_ H
 obtain ⟨c36b0, c36b1, H⟩ := H
 replace H := oc_ H
 obtain ⟨t469, A37, H⟩ := H
 replace H := ilf_ H
 obtain ⟨c38b0, H⟩ := H
 replace H := ien_ H
 obtain ⟨c39b0, c39b1, H⟩ := H
 obtain rfl := si_ H
 go_enter Try.func4, Try.ntmps4
 try go_wp2_with (first | ((refine gd_ 4 ?_); refine by_ 4 #[.int .i64 a1_0, .int .i64 a1_1, .int .i64 a1_2, .slice A1_3 l1_3.length c1_3] 26 HB ?_; intro gb399 hg w40 BK399 hb GW399 HB_; replace HB := HB_; clear hb hg) | ((refine gd_ 5 ?_); refine by_ 5 #[.int .i64 a2_0, .int .i64 a2_1, .int .i64 a2_2] 23 HB ?_; intro gb400 hg w41 BK400 hb GW400 HB_; have NB399_400 := bm_ BK399 hg; have NB400_399 := bn_ BK399 hg; replace BK399 := bb_ BK399 hb; replace HB := HB_; clear hb hg; have hnb42 := NB399_400.out; have hnc42 := NB400_399.out; obtain ⟨hcz43_0, hcz43_1, hcz43_2, hcz43_3, hfz43_0, hfz43_1, hfz43_2, hfz43_3⟩ := ch4_ BK399) | ((refine gc_ 7 ?_); refine ge_ 20 Try.func7 #[.agg #[.int .i64 a1_0, .int .i64 a1_1, .int .i64 a1_2, .slice A1_3 l1_3.length c1_3], .int .i64 1048576] ?_; (with_reducible refine (laws_szMeasure.calls a1_0 a1_1 a1_2 _ _ l1_3 1048576 t401 _ ?side1 ?side2 A4.out).mono ?_); (case side1 => exact ca_ (Kd.C_below HR1_3.out HB.out)); (case side2 => exact HC1_3.out); rintro e w44 ⟨rfl, hb⟩; refine ⟨_, rfl, ?_⟩; replace BK399 := bb_ BK399 hb; replace BK400 := bb_ BK400 hb; replace HB := bt_ HB hb; (try clear hb)))
 replace BK399 := bd_ BK399
 replace BK400 := bd_ BK400
 replace HB := be_ HB
 refine start_ (n := 12) (S := fun w' => w'.cell? ⟨gb399, 0, none⟩ = some (.int .i64 a1_0) ∧ w'.cell? ⟨gb399, 1, none⟩ = some (.int .i64 a1_1) ∧ w'.cell? ⟨gb399, 2, none⟩ = some (.int .i64 a1_2) ∧ w'.cell? ⟨gb399, 3, none⟩ = some (.slice A1_3 l1_3.length c1_3) ∧ w'.cell? ⟨gb400, 0, none⟩ = some (.int .i64 a2_0) ∧ w'.cell? ⟨gb400, 1, none⟩ = some (.int .i64 a2_1) ∧ w'.cell? ⟨gb400, 2, none⟩ = some (.int .i64 a2_2)) (ds := []) (bv_ 12 0) (by kernel_rfl) rfl rfl ⟨cz_ BK399 0, cz_ BK399 1, cz_ BK399 2, cz_ BK399 3, cz_ BK400 0, cz_ BK400 1, cz_ BK400 2⟩ (fun hHeld => ?_); refine with_tabW laws_FnExactCoarsenAt.tab5 laws_FnExactCoarsenAt.bits5 (fun HT_ HW_ => ?_)
 generalize w44.drew = w45 at BK399 BK400 HB hHeld ⊢
 refine px_ HT_ 0 24 1 ?_
 refine ta_ HT_ HW_ 1 (some 25) (bv_ 12 3) hHeld ?_ (hy := by rintro w' ⟨s0, s1, s2, s3, s4, s5, s6⟩; go_simp; with_reducible rfl)
 refine ta_ HT_ HW_ 3 (some 27) (bv_ 12 11) hHeld ?_ (hy := by rintro w' ⟨s0, s1, s2, s3, s4, s5, s6⟩; go_simp; with_reducible rfl)
 refine join_ (σ := Value × Value × Nat) 2 (bv_ 12 1023) (fun s_ => [(26, .agg #[.int .i64 t402, .int .i64 t403, .int .i64 t404, s_.1]), (28, .agg #[.int .i64 t408, .int .i64 t409, .int .i64 t410]), (29, .tuple #[.agg #[.int .i64 t411, .int .i64 t412, .int .i64 t413, s_.2.1], .int .i64 t417]), (8, .pointer (some ⟨s_.2.2, 0, none⟩)), (23, .tuple #[.agg #[.int .i64 t411, .int .i64 t412, .int .i64 t413, s_.2.1], .int .i64 t417]), (30, .agg #[.int .i64 t411, .int .i64 t412, .int .i64 t413, s_.2.1]), (31, .int .i64 t417)]) (fun s_ w' => (w'.cell? ⟨gb399, 0, none⟩ = some (.int .i64 a1_0) ∧ w'.cell? ⟨gb399, 1, none⟩ = some (.int .i64 a1_1) ∧ w'.cell? ⟨gb399, 2, none⟩ = some (.int .i64 a1_2) ∧ w'.cell? ⟨gb399, 3, none⟩ = some (.slice A1_3 l1_3.length c1_3) ∧ w'.cell? ⟨gb400, 0, none⟩ = some (.int .i64 a2_0) ∧ w'.cell? ⟨gb400, 1, none⟩ = some (.int .i64 a2_1) ∧ w'.cell? ⟨gb400, 2, none⟩ = some (.int .i64 a2_2)) ∧ (Kd.R k72 72 w' w.heap.size (fun k_ => some k_ ≠ (s_.2.1 : Value).ownBlock) s_.1 t405) ∧ (Kd.R k72 72 w' w.heap.size (fun k_ => some k_ ≠ (s_.1 : Value).ownBlock) s_.2.1 t414) ∧ (w'.heap[gb399]? = some (.cells #[.int .i64 a1_0, .int .i64 a1_1, .int .i64 a1_2, .slice A1_3 l1_3.length c1_3] 26 (0, 0))) ∧ (w'.heap[gb400]? = some (.cells #[.int .i64 a2_0, .int .i64 a2_1, .int .i64 a2_2] 23 (0, 0))) ∧ (w'.heap[s_.2.2]? = some (.cells #[.int .i64 0, .int .i64 0, .int .i64 0, .slice none 0 0] 34 (0, 0))) ∧ (w.heap.size ≤ s_.2.2) ∧ (w.heap.size ≤ s_.2.2) ∧ (gb399 ≠ s_.2.2) ∧ (s_.2.2 ≠ gb399) ∧ (gb400 ≠ s_.2.2) ∧ (s_.2.2 ≠ gb400) ∧ (Below w.heap.size w w')) ?_ ?_
 rotate_left
 ·intro hCont
  refine tw_ HT_ 2 9 (some 26) (some 8) (bv_ 12 15) (bv_ 12 523) (fun K hK => ?_) (fun K hK => ?_)
  ·skip
   refine gs_ Try.func9 #[.agg #[.int .i64 a1_0, .int .i64 a1_1, .int .i64 a1_2, .slice A1_3 l1_3.length c1_3]] ?_
   with_reducible refine (laws_toMeasure.calls k a1_0 a1_1 a1_2 _ _ l1_3 t402 t403 t404 t405 _ ?side1 ?side2 A11.out).mono ?_
   (case side1 => exact ca_ (Kd.C_below HR1_3.out HB.out))
   (case side2 => exact HC1_3.out)
   rintro e w46 ⟨v406, rfl, ho0, hb⟩
   refine ⟨_, rfl, ?_⟩
   have HO407 := Aside0.mk (Kd.R_lower ho0 (below_size (bw_ HB).out))
   replace BK399 := bb_ BK399 hb
   replace BK400 := bb_ BK400 hb
   replace HB := bt_ HB hb
   try clear hb
   (try clear ho0)
   refine hK.out _ _ ⟨cz_ BK399 0, cz_ BK399 1, cz_ BK399 2, cz_ BK399 3, cz_ BK400 0, cz_ BK400 1, cz_ BK400 2⟩ (fun hHeld => ?_)
   clear hK K
   refine nm_ (some 26) ?_
   refine tw_ HT_ 4 9 (some 28) (some 8) (bv_ 12 31) (bv_ 12 527) (fun K hK => ?_) (fun K hK => ?_)
   ·skip
    refine gs_ Try.func17 #[.agg #[.int .i64 a2_0, .int .i64 a2_1, .int .i64 a2_2]] ?_
    with_reducible refine (laws_toBall.calls a2_0 a2_1 a2_2 t408 t409 t410 _ A12.out).mono ?_
    rintro e w47 ⟨rfl, hb⟩
    refine ⟨_, rfl, ?_⟩
    replace HO407 := rb_ HO407 hb
    replace BK399 := bb_ BK399 hb
    replace BK400 := bb_ BK400 hb
    replace HB := bt_ HB hb
    try clear hb
    obtain ⟨Ao48, co48, eo48⟩ := Kd.R_slice HO407.out
    (first | subst eo48 | (injection eo48 with f1_ f2_ f3_; have f4_ := f1_.symm; have f5_ := f3_.symm; clear f1_ f2_ f3_; subst f4_; subst f5_))
    refine hK.out _ _ ⟨cz_ BK399 0, cz_ BK399 1, cz_ BK399 2, cz_ BK399 3, cz_ BK400 0, cz_ BK400 1, cz_ BK400 2⟩ (fun hHeld => ?_)
    clear hK K
    refine nm_ (some 28) ?_
    refine tw_ HT_ 5 9 (some 29) (some 8) (bv_ 12 63) (bv_ 12 543) (fun K hK => ?_) (fun K hK => ?_)
    ·skip
     refine gs_ Try.func16 #[.int .i64 a0, .agg #[.int .i64 t402, .int .i64 t403, .int .i64 t404, .slice Ao48 t405.length co48], .agg #[.int .i64 t408, .int .i64 t409, .int .i64 t410]] ?_
     with_reducible refine (spec_CoarsenAt.calls k a0 t402 t403 t404 _ _ t405 t408 t409 t410 t411 t412 t413 t414 t417 _ ?side1 ?side2 A13.out).mono ?_
     (case side1 => exact ca_ (Kd.R_reads' HO407.out).2.2)
     (case side2 => exact (Kd.R_reads' HO407.out).2.1)
     rintro e w49 ⟨v415, rfl, ho0, hb⟩
     refine ⟨_, rfl, ?_⟩
     have HO416 := Aside0.mk (Kd.R_lower (Kd.R_new' ho0 (Kd.R_lt (ra_ HO407.out))) (below_size (bw_ HB).out))
     replace HO407 := Aside0.mk (Kd.R_elder' (ra_ HO407.out) (Kd.R_base ho0) hb)
     replace BK399 := bb_ BK399 hb
     replace BK400 := bb_ BK400 hb
     replace HB := bt_ HB hb
     try clear hb
     (try clear ho0)
     refine hK.out _ _ ⟨cz_ BK399 0, cz_ BK399 1, cz_ BK399 2, cz_ BK399 3, cz_ BK400 0, cz_ BK400 1, cz_ BK400 2⟩ (fun hHeld => ?_)
     clear hK K
     refine nm_ (some 29) ?_
     refine px_ HT_ 6 23 127 ?_
     refine px_ HT_ 7 30 255 ?_
     refine px_ HT_ 8 31 511 ?_
     refine on_ HT_ 9 (some 8) (bv_ 12 1023) (fun K hK => ?_)
     refine bz_ 8 #[.int .i64 0, .int .i64 0, .int .i64 0, .slice none 0 0] 34 ?_
     intro gb418 hg w50 BK418 hb
     have GW418 := bs_ HB hg
     have NB399_418 := bm_ BK399 hg
     have NB418_399 := bn_ BK399 hg
     have NB400_418 := bm_ BK400 hg
     have NB418_400 := bn_ BK400 hg
     replace HO407 := rb_ HO407 hb
     replace HO416 := rb_ HO416 hb
     replace BK399 := bb_ BK399 hb
     replace BK400 := bb_ BK400 hb
     replace HB := bt_ HB hb
     clear hb hg
     refine hK.out _ _ ⟨cz_ BK399 0, cz_ BK399 1, cz_ BK399 2, cz_ BK399 3, cz_ BK400 0, cz_ BK400 1, cz_ BK400 2⟩ (fun hHeld => ?_)
     clear hK K
     refine nm_ (some 8) ?_
     exact norm_ (by simp only [putAll, Act.put, lstS, lstZ, lstC]) (hCont (.slice Ao48 t405.length co48, v415, gb418) _ ⟨hHeld, (by (with_reducible repeat (first | apply Kd.R_alloc | apply Kd.R_drewN | apply Kd.R_drew)); exact Kd.R_mono HO407.out (fun _ hk => hk.2)), (by (with_reducible repeat (first | apply Kd.R_alloc | apply Kd.R_drewN | apply Kd.R_drew)); exact Kd.R_mono HO416.out (fun _ hk => hk.2)), (bl_ BK399).out, (bl_ BK400).out, (bl_ BK418).out, GW418.out, GW418.out, NB399_418.out, NB418_399.out, NB400_418.out, NB418_400.out, (bw_ HB).out⟩)
    skip
    refine bz_ 8 #[.int .i64 0, .int .i64 0, .int .i64 0, .slice none 0 0] 34 ?_
    intro gb418 hg w48 BK418 hb
    have GW418 := bs_ HB hg
    have NB399_418 := bm_ BK399 hg
    have NB418_399 := bn_ BK399 hg
    have NB400_418 := bm_ BK400 hg
    have NB418_400 := bn_ BK400 hg
    replace HO407 := rb_ HO407 hb
    replace BK399 := bb_ BK399 hb
    replace BK400 := bb_ BK400 hb
    replace HB := bt_ HB hb
    clear hb hg
    obtain ⟨Ao49, co49, eo49⟩ := Kd.R_slice HO407.out
    (first | subst eo49 | (injection eo49 with f1_ f2_ f3_; have f4_ := f1_.symm; have f5_ := f3_.symm; clear f1_ f2_ f3_; subst f4_; subst f5_))
    refine hK.out _ _ ⟨cz_ BK399 0, cz_ BK399 1, cz_ BK399 2, cz_ BK399 3, cz_ BK400 0, cz_ BK400 1, cz_ BK400 2⟩ (fun hHeld => ?_)
    clear hK K
    refine nm_ (some 8) ?_
    refine on_ HT_ 5 (some 29) (bv_ 12 575) (fun K hK => ?_)
    refine gs_ Try.func16 #[.int .i64 a0, .agg #[.int .i64 t402, .int .i64 t403, .int .i64 t404, .slice Ao49 t405.length co49], .agg #[.int .i64 t408, .int .i64 t409, .int .i64 t410]] ?_
    with_reducible refine (spec_CoarsenAt.calls k a0 t402 t403 t404 _ _ t405 t408 t409 t410 t411 t412 t413 t414 t417 _ ?side1 ?side2 A13.out).mono ?_
    (case side1 => exact ca_ (Kd.R_reads' HO407.out).2.2)
    (case side2 => exact (Kd.R_reads' HO407.out).2.1)
    rintro e w50 ⟨v415, rfl, ho0, hb⟩
    refine ⟨_, rfl, ?_⟩
    have HO416 := Aside0.mk (Kd.R_lower (Kd.R_new' ho0 (Kd.R_lt (ra_ HO407.out))) (below_size (bw_ HB).out))
    replace HO407 := Aside0.mk (Kd.R_elder' (ra_ HO407.out) (Kd.R_base ho0) hb)
    replace BK399 := bb_ BK399 hb
    replace BK400 := bb_ BK400 hb
    replace BK418 := bb_ BK418 hb
    replace HB := bt_ HB hb
    try clear hb
    (try clear ho0)
    refine hK.out _ _ ⟨cz_ BK399 0, cz_ BK399 1, cz_ BK399 2, cz_ BK399 3, cz_ BK400 0, cz_ BK400 1, cz_ BK400 2⟩ (fun hHeld => ?_)
    clear hK K
    refine nm_ (some 29) ?_
    refine px_ HT_ 6 23 639 ?_
    refine px_ HT_ 7 30 767 ?_
    refine px_ HT_ 8 31 1023 ?_
    exact norm_ (by simp only [putAll, Act.put, lstS, lstZ, lstC]) (hCont (.slice Ao49 t405.length co49, v415, gb418) _ ⟨hHeld, (by (with_reducible repeat (first | apply Kd.R_alloc | apply Kd.R_drewN | apply Kd.R_drew)); exact Kd.R_mono HO407.out (fun _ hk => hk.2)), (by (with_reducible repeat (first | apply Kd.R_alloc | apply Kd.R_drewN | apply Kd.R_drew)); exact Kd.R_mono HO416.out (fun _ hk => hk.2)), (bl_ BK399).out, (bl_ BK400).out, (bl_ BK418).out, GW418.out, GW418.out, NB399_418.out, NB418_399.out, NB400_418.out, NB418_400.out, (bw_ HB).out⟩)
   skip
   refine bz_ 8 #[.int .i64 0, .int .i64 0, .int .i64 0, .slice none 0 0] 34 ?_
   intro gb418 hg w47 BK418 hb
   have GW418 := bs_ HB hg
   have NB399_418 := bm_ BK399 hg
   have NB418_399 := bn_ BK399 hg
   have NB400_418 := bm_ BK400 hg
   have NB418_400 := bn_ BK400 hg
   replace HO407 := rb_ HO407 hb
   replace BK399 := bb_ BK399 hb
   replace BK400 := bb_ BK400 hb
   replace HB := bt_ HB hb
   clear hb hg
   refine hK.out _ _ ⟨cz_ BK399 0, cz_ BK399 1, cz_ BK399 2, cz_ BK399 3, cz_ BK400 0, cz_ BK400 1, cz_ BK400 2⟩ (fun hHeld => ?_)
   clear hK K
   refine nm_ (some 8) ?_
   refine on_ HT_ 4 (some 28) (bv_ 12 543) (fun K hK => ?_)
   refine gs_ Try.func17 #[.agg #[.int .i64 a2_0, .int .i64 a2_1, .int .i64 a2_2]] ?_
   with_reducible refine (laws_toBall.calls a2_0 a2_1 a2_2 t408 t409 t410 _ A12.out).mono ?_
   rintro e w48 ⟨rfl, hb⟩
   refine ⟨_, rfl, ?_⟩
   replace HO407 := rb_ HO407 hb
   replace BK399 := bb_ BK399 hb
   replace BK400 := bb_ BK400 hb
   replace BK418 := bb_ BK418 hb
   replace HB := bt_ HB hb
   try clear hb
   obtain ⟨Ao49, co49, eo49⟩ := Kd.R_slice HO407.out
   (first | subst eo49 | (injection eo49 with f1_ f2_ f3_; have f4_ := f1_.symm; have f5_ := f3_.symm; clear f1_ f2_ f3_; subst f4_; subst f5_))
   refine hK.out _ _ ⟨cz_ BK399 0, cz_ BK399 1, cz_ BK399 2, cz_ BK399 3, cz_ BK400 0, cz_ BK400 1, cz_ BK400 2⟩ (fun hHeld => ?_)
   clear hK K
   refine nm_ (some 28) ?_
   refine on_ HT_ 5 (some 29) (bv_ 12 575) (fun K hK => ?_)
   refine gs_ Try.func16 #[.int .i64 a0, .agg #[.int .i64 t402, .int .i64 t403, .int .i64 t404, .slice Ao49 t405.length co49], .agg #[.int .i64 t408, .int .i64 t409, .int .i64 t410]] ?_
   with_reducible refine (spec_CoarsenAt.calls k a0 t402 t403 t404 _ _ t405 t408 t409 t410 t411 t412 t413 t414 t417 _ ?side1 ?side2 A13.out).mono ?_
   (case side1 => exact ca_ (Kd.R_reads' HO407.out).2.2)
   (case side2 => exact (Kd.R_reads' HO407.out).2.1)
   rintro e w50 ⟨v415, rfl, ho0, hb⟩
   refine ⟨_, rfl, ?_⟩
   have HO416 := Aside0.mk (Kd.R_lower (Kd.R_new' ho0 (Kd.R_lt (ra_ HO407.out))) (below_size (bw_ HB).out))
   replace HO407 := Aside0.mk (Kd.R_elder' (ra_ HO407.out) (Kd.R_base ho0) hb)
   replace BK399 := bb_ BK399 hb
   replace BK400 := bb_ BK400 hb
   replace BK418 := bb_ BK418 hb
   replace HB := bt_ HB hb
   try clear hb
   (try clear ho0)
   refine hK.out _ _ ⟨cz_ BK399 0, cz_ BK399 1, cz_ BK399 2, cz_ BK399 3, cz_ BK400 0, cz_ BK400 1, cz_ BK400 2⟩ (fun hHeld => ?_)
   clear hK K
   refine nm_ (some 29) ?_
   refine px_ HT_ 6 23 639 ?_
   refine px_ HT_ 7 30 767 ?_
   refine px_ HT_ 8 31 1023 ?_
   exact norm_ (by simp only [putAll, Act.put, lstS, lstZ, lstC]) (hCont (.slice Ao49 t405.length co49, v415, gb418) _ ⟨hHeld, (by (with_reducible repeat (first | apply Kd.R_alloc | apply Kd.R_drewN | apply Kd.R_drew)); exact Kd.R_mono HO407.out (fun _ hk => hk.2)), (by (with_reducible repeat (first | apply Kd.R_alloc | apply Kd.R_drewN | apply Kd.R_drew)); exact Kd.R_mono HO416.out (fun _ hk => hk.2)), (bl_ BK399).out, (bl_ BK400).out, (bl_ BK418).out, GW418.out, GW418.out, NB399_418.out, NB418_399.out, NB400_418.out, NB418_400.out, (bw_ HB).out⟩)
  skip
  refine bz_ 8 #[.int .i64 0, .int .i64 0, .int .i64 0, .slice none 0 0] 34 ?_
  intro gb418 hg w46 BK418 hb
  have GW418 := bs_ HB hg
  have NB399_418 := bm_ BK399 hg
  have NB418_399 := bn_ BK399 hg
  have NB400_418 := bm_ BK400 hg
  have NB418_400 := bn_ BK400 hg
  replace BK399 := bb_ BK399 hb
  replace BK400 := bb_ BK400 hb
  replace HB := bt_ HB hb
  clear hb hg
  refine hK.out _ _ ⟨cz_ BK399 0, cz_ BK399 1, cz_ BK399 2, cz_ BK399 3, cz_ BK400 0, cz_ BK400 1, cz_ BK400 2⟩ (fun hHeld => ?_)
  clear hK K
  refine nm_ (some 8) ?_
  refine on_ HT_ 2 (some 26) (bv_ 12 527) (fun K hK => ?_)
  refine gs_ Try.func9 #[.agg #[.int .i64 a1_0, .int .i64 a1_1, .int .i64 a1_2, .slice A1_3 l1_3.length c1_3]] ?_
  with_reducible refine (laws_toMeasure.calls k a1_0 a1_1 a1_2 _ _ l1_3 t402 t403 t404 t405 _ ?side1 ?side2 A11.out).mono ?_
  (case side1 => exact ca_ (Kd.C_below HR1_3.out HB.out))
  (case side2 => exact HC1_3.out)
  rintro e w47 ⟨v406, rfl, ho0, hb⟩
  refine ⟨_, rfl, ?_⟩
  have HO407 := Aside0.mk (Kd.R_lower ho0 (below_size (bw_ HB).out))
  replace BK399 := bb_ BK399 hb
  replace BK400 := bb_ BK400 hb
  replace BK418 := bb_ BK418 hb
  replace HB := bt_ HB hb
  try clear hb
  (try clear ho0)
  refine hK.out _ _ ⟨cz_ BK399 0, cz_ BK399 1, cz_ BK399 2, cz_ BK399 3, cz_ BK400 0, cz_ BK400 1, cz_ BK400 2⟩ (fun hHeld => ?_)
  clear hK K
  refine nm_ (some 26) ?_
  refine on_ HT_ 4 (some 28) (bv_ 12 543) (fun K hK => ?_)
  refine gs_ Try.func17 #[.agg #[.int .i64 a2_0, .int .i64 a2_1, .int .i64 a2_2]] ?_
  with_reducible refine (laws_toBall.calls a2_0 a2_1 a2_2 t408 t409 t410 _ A12.out).mono ?_
  rintro e w48 ⟨rfl, hb⟩
  refine ⟨_, rfl, ?_⟩
  replace HO407 := rb_ HO407 hb
  replace BK399 := bb_ BK399 hb
  replace BK400 := bb_ BK400 hb
  replace BK418 := bb_ BK418 hb
  replace HB := bt_ HB hb
  try clear hb
  obtain ⟨Ao49, co49, eo49⟩ := Kd.R_slice HO407.out
  (first | subst eo49 | (injection eo49 with f1_ f2_ f3_; have f4_ := f1_.symm; have f5_ := f3_.symm; clear f1_ f2_ f3_; subst f4_; subst f5_))
  refine hK.out _ _ ⟨cz_ BK399 0, cz_ BK399 1, cz_ BK399 2, cz_ BK399 3, cz_ BK400 0, cz_ BK400 1, cz_ BK400 2⟩ (fun hHeld => ?_)
  clear hK K
  refine nm_ (some 28) ?_
  refine on_ HT_ 5 (some 29) (bv_ 12 575) (fun K hK => ?_)
  refine gs_ Try.func16 #[.int .i64 a0, .agg #[.int .i64 t402, .int .i64 t403, .int .i64 t404, .slice Ao49 t405.length co49], .agg #[.int .i64 t408, .int .i64 t409, .int .i64 t410]] ?_
  with_reducible refine (spec_CoarsenAt.calls k a0 t402 t403 t404 _ _ t405 t408 t409 t410 t411 t412 t413 t414 t417 _ ?side1 ?side2 A13.out).mono ?_
  (case side1 => exact ca_ (Kd.R_reads' HO407.out).2.2)
  (case side2 => exact (Kd.R_reads' HO407.out).2.1)
  rintro e w50 ⟨v415, rfl, ho0, hb⟩
  refine ⟨_, rfl, ?_⟩
  have HO416 := Aside0.mk (Kd.R_lower (Kd.R_new' ho0 (Kd.R_lt (ra_ HO407.out))) (below_size (bw_ HB).out))
  replace HO407 := Aside0.mk (Kd.R_elder' (ra_ HO407.out) (Kd.R_base ho0) hb)
  replace BK399 := bb_ BK399 hb
  replace BK400 := bb_ BK400 hb
  replace BK418 := bb_ BK418 hb
  replace HB := bt_ HB hb
  try clear hb
  (try clear ho0)
  refine hK.out _ _ ⟨cz_ BK399 0, cz_ BK399 1, cz_ BK399 2, cz_ BK399 3, cz_ BK400 0, cz_ BK400 1, cz_ BK400 2⟩ (fun hHeld => ?_)
  clear hK K
  refine nm_ (some 29) ?_
  refine px_ HT_ 6 23 639 ?_
  refine px_ HT_ 7 30 767 ?_
  refine px_ HT_ 8 31 1023 ?_
  exact norm_ (by simp only [putAll, Act.put, lstS, lstZ, lstC]) (hCont (.slice Ao49 t405.length co49, v415, gb418) _ ⟨hHeld, (by (with_reducible repeat (first | apply Kd.R_alloc | apply Kd.R_drewN | apply Kd.R_drew)); exact Kd.R_mono HO407.out (fun _ hk => hk.2)), (by (with_reducible repeat (first | apply Kd.R_alloc | apply Kd.R_drewN | apply Kd.R_drew)); exact Kd.R_mono HO416.out (fun _ hk => hk.2)), (bl_ BK399).out, (bl_ BK400).out, (bl_ BK418).out, GW418.out, GW418.out, NB399_418.out, NB418_399.out, NB400_418.out, NB418_400.out, (bw_ HB).out⟩)
 rintro ⟨v406, v415, gb418⟩ w51 ⟨hS_, h0_, h1_, h2_, h3_, h4_, h5_, h6_, h7_, h8_, h9_, h10_, h11_⟩
 clear BK399 BK400 HB
 have HO407 := Aside0.mk h0_
 have HO416 := Aside0.mk h1_
 have BK399 := Aside0.mk h2_
 have BK400 := Aside0.mk h3_
 have BK418 := Aside0.mk h4_
 have GW418 := Aside0.mk h5_
 have GW418 := Aside0.mk h6_
 have NB399_418 := Aside0.mk h7_
 have NB418_399 := Aside0.mk h8_
 have NB400_418 := Aside0.mk h9_
 have NB418_400 := Aside0.mk h10_
 have HB := Aside0.mk h11_
 clear h0_ h1_ h2_ h3_ h4_ h5_ h6_ h7_ h8_ h9_ h10_ h11_
 have hHeld : w51.cell? ⟨gb399, 0, none⟩ = some (.int .i64 a1_0) ∧ w51.cell? ⟨gb399, 1, none⟩ = some (.int .i64 a1_1) ∧ w51.cell? ⟨gb399, 2, none⟩ = some (.int .i64 a1_2) ∧ w51.cell? ⟨gb399, 3, none⟩ = some (.slice A1_3 l1_3.length c1_3) ∧ w51.cell? ⟨gb400, 0, none⟩ = some (.int .i64 a2_0) ∧ w51.cell? ⟨gb400, 1, none⟩ = some (.int .i64 a2_1) ∧ w51.cell? ⟨gb400, 2, none⟩ = some (.int .i64 a2_2) := hS_
 obtain ⟨Ao55, co55, eo55⟩ := Kd.R_slice HO416.out
 (first | subst eo55 | (injection eo55 with f1_ f2_ f3_; have f4_ := f1_.symm; have f5_ := f3_.symm; clear f1_ f2_ f3_; subst f4_; subst f5_))
 refine norm_ (a' := ?_) ?_ ?_
 rotate_left
 ·simp only [putAll, Act.put, lstS, lstZ, lstC]
  rfl
 refine on_ HT_ 10 none (bv_ 12 2047) (fun K hK => ?_)
 have hs52 : w51.cell? ⟨gb418, 0, none⟩ = some (.int .i64 0) := (blk_cell BK418.out 0).trans rfl
 have hfs52 := blk_frozen BK418.out 0
 have hns52_0 := NB399_418.out
 have hns52_1 := NB400_418.out
 have hms52_0 := NB418_399.out
 have hms52_1 := NB418_400.out
 have hs53 : w51.cell? ⟨gb418, 1, none⟩ = some (.int .i64 0) := (blk_cell BK418.out 1).trans rfl
 have hfs53 := blk_frozen BK418.out 1
 have hns53_0 := NB399_418.out
 have hns53_1 := NB400_418.out
 have hms53_0 := NB418_399.out
 have hms53_1 := NB418_400.out
 have hs54 : w51.cell? ⟨gb418, 2, none⟩ = some (.int .i64 0) := (blk_cell BK418.out 2).trans rfl
 have hfs54 := blk_frozen BK418.out 2
 have hns54_0 := NB399_418.out
 have hns54_1 := NB400_418.out
 have hms54_0 := NB418_399.out
 have hms54_1 := NB418_400.out
 have hs56 : w51.cell? ⟨gb418, 3, none⟩ = some (.slice none 0 0) := (blk_cell BK418.out 3).trans rfl
 have hfs56 := blk_frozen BK418.out 3
 have hns56_0 := NB399_418.out
 have hns56_1 := NB400_418.out
 have hms56_0 := NB418_399.out
 have hms56_1 := NB418_400.out
 refine skip_ (w1 := ?_) (by rfl) rfl ?_ ?_
 rotate_left
 ·go_simp
  rfl
 refine hK.out _ _ ⟨(cg_ NB399_418 ((cg_ NB399_418 ((cg_ NB399_418 ((cg_ NB399_418 (hHeld.1)))))))), (cg_ NB399_418 ((cg_ NB399_418 ((cg_ NB399_418 ((cg_ NB399_418 (hHeld.2.1)))))))), (cg_ NB399_418 ((cg_ NB399_418 ((cg_ NB399_418 ((cg_ NB399_418 (hHeld.2.2.1)))))))), (cg_ NB399_418 ((cg_ NB399_418 ((cg_ NB399_418 ((cg_ NB399_418 (hHeld.2.2.2.1)))))))), (cg_ NB400_418 ((cg_ NB400_418 ((cg_ NB400_418 ((cg_ NB400_418 (hHeld.2.2.2.2.1)))))))), (cg_ NB400_418 ((cg_ NB400_418 ((cg_ NB400_418 ((cg_ NB400_418 (hHeld.2.2.2.2.2.1)))))))), (cg_ NB400_418 ((cg_ NB400_418 ((cg_ NB400_418 ((cg_ NB400_418 (hHeld.2.2.2.2.2.2))))))))⟩ (fun hHeld => ?_)
 clear hK K
 refine px_ HT_ 11 9 4095 ?_
 refine done_ (done_of HT_.out (by kernel_rfl)) ?_
 have hnb57 := NB399_418.out
 have hnc57 := NB418_399.out
 obtain ⟨hcz58_0, hcz58_1, hcz58_2, hcz58_3, hfz58_0, hfz58_1, hfz58_2, hfz58_3⟩ := ch4_ BK399
 try go_wp2_with (first | ((refine gc_ 9 ?_); refine ge_ 33 Try.func9 #[.agg #[.int .i64 a1_0, .int .i64 a1_1, .int .i64 a1_2, .slice A1_3 l1_3.length c1_3]] ?_; (with_reducible refine (laws_toMeasure.calls k a1_0 a1_1 a1_2 _ _ l1_3 t419 t420 t421 t422 _ ?side1 ?side2 A14.out).mono ?_); (case side1 => exact Kd.C_below HR1_3.out (bw_ HB).out); (case side2 => exact HC1_3.out); rintro e w59 ⟨v423, rfl, ho0, hb⟩; refine ⟨_, rfl, ?_⟩; have HO424 := Aside0.mk (Kd.R_lower (Kd.R_new' (Kd.R_new' ho0 (Kd.R_lt (ra_ (rs4_ HO407.out BK418.out)))) (Kd.R_lt (ra_ (rs4_ HO416.out BK418.out)))) (below_size (bw_ HB).out)); replace HO407 := Aside0.mk (Kd.R_elder' (ra_ (rs4_ HO407.out BK418.out)) (Kd.R_base ho0) hb); replace HO416 := Aside0.mk (Kd.R_elder' (ra_ (rs4_ HO416.out BK418.out)) (Kd.R_base ho0) hb); replace BK399 := fb_ BK399 NB399_418 hb; replace BK400 := fb_ BK400 NB400_418 hb; replace BK418 := Aside0.mk (blk_below (g := gb418) (o := .cells #[.int .i64 t411, .int .i64 t412, .int .i64 t413, .slice Ao55 t414.length co55] 34 (0, 0)) (bp_ BK418).out hb); replace HB := bt_ HB hb; (try clear hb); (try clear ho0)) | ((refine gd_ 10 ?_); refine bx_ 10 #[.int .i64 0, .int .i64 0, .int .i64 0, .slice none 0 0] 34 ?_; intro gb425 hg w60 BK425 hb; have GW425 := bs_ HB hg; have NB399_425 := bm_ BK399 hg; have NB425_399 := bn_ BK399 hg; have NB400_425 := bm_ BK400 hg; have NB425_400 := bn_ BK400 hg; have NB418_425 := bm_ BK418 hg; have NB425_418 := bn_ BK418 hg; replace HO407 := rb_ HO407 hb; replace HO416 := rb_ HO416 hb; replace HO424 := rb_ HO424 hb; replace BK399 := bb_ BK399 hb; replace BK400 := bb_ BK400 hb; replace BK418 := bb_ BK418 hb; replace HB := bt_ HB hb; clear hb hg; have hnb61 := NB425_399.out; have hnc61 := NB399_425.out; have hnb62 := NB425_400.out; have hnc62 := NB400_425.out; have hnb63 := NB425_418.out; have hnc63 := NB418_425.out; obtain ⟨hcz64_0, hcz64_1, hcz64_2, hcz64_3, hfz64_0, hfz64_1, hfz64_2, hfz64_3⟩ := ch4_ BK425; obtain ⟨Ao65, co65, eo65⟩ := Kd.R_slice HO424.out; subst eo65))
 have n0_ : Aside0 (Kd.R k72 72 ((((w60.setCell ⟨gb425, 0, none⟩ (.int .i64 t419)).setCell ⟨gb425, 1, none⟩ (.int .i64 t420)).setCell ⟨gb425, 2, none⟩ (.int .i64 t421)).setCell ⟨gb425, 3, none⟩ (.slice Ao65 t422.length co65)) w.heap.size (fun k_ => some k_ ≠ (.slice Ao55 t414.length co55 : Value).ownBlock ∧ some k_ ≠ (.slice Ao65 t422.length co65 : Value).ownBlock) v406 t405) := ⟨by (with_reducible repeat (first | apply Kd.R_alloc | apply Kd.R_drewN | apply Kd.R_drew)); exact Kd.R_mono (Kd.R_far (p := ⟨gb425, 3, none⟩) (Kd.R_far (p := ⟨gb425, 2, none⟩) (Kd.R_far (p := ⟨gb425, 1, none⟩) (Kd.R_far (p := ⟨gb425, 0, none⟩) (Kd.R_types HO407.out BK425.out (by decide)) (fun _ hk => hk.2) (.int .i64 t419)) (fun _ hk => hk.2) (.int .i64 t420)) (fun _ hk => hk.2) (.int .i64 t421)) (fun _ hk => hk.2) (.slice Ao65 t422.length co65)) (fun _ hk => ⟨hk.1.1, hk.1.2⟩)⟩
 have n1_ : Aside0 (Kd.R k72 72 ((((w60.setCell ⟨gb425, 0, none⟩ (.int .i64 t419)).setCell ⟨gb425, 1, none⟩ (.int .i64 t420)).setCell ⟨gb425, 2, none⟩ (.int .i64 t421)).setCell ⟨gb425, 3, none⟩ (.slice Ao65 t422.length co65)) w.heap.size (fun k_ => some k_ ≠ (v406 : Value).ownBlock ∧ some k_ ≠ (.slice Ao65 t422.length co65 : Value).ownBlock) (.slice Ao55 t414.length co55) t414) := ⟨by (with_reducible repeat (first | apply Kd.R_alloc | apply Kd.R_drewN | apply Kd.R_drew)); exact Kd.R_mono (Kd.R_far (p := ⟨gb425, 3, none⟩) (Kd.R_far (p := ⟨gb425, 2, none⟩) (Kd.R_far (p := ⟨gb425, 1, none⟩) (Kd.R_far (p := ⟨gb425, 0, none⟩) (Kd.R_types HO416.out BK425.out (by decide)) (fun _ hk => hk.2) (.int .i64 t419)) (fun _ hk => hk.2) (.int .i64 t420)) (fun _ hk => hk.2) (.int .i64 t421)) (fun _ hk => hk.2) (.slice Ao65 t422.length co65)) (fun _ hk => ⟨hk.1.1, hk.1.2⟩)⟩
 have n2_ : Aside0 (Kd.R k72 72 ((((w60.setCell ⟨gb425, 0, none⟩ (.int .i64 t419)).setCell ⟨gb425, 1, none⟩ (.int .i64 t420)).setCell ⟨gb425, 2, none⟩ (.int .i64 t421)).setCell ⟨gb425, 3, none⟩ (.slice Ao65 t422.length co65)) w.heap.size (fun k_ => some k_ ≠ (v406 : Value).ownBlock ∧ some k_ ≠ (.slice Ao55 t414.length co55 : Value).ownBlock) (.slice Ao65 t422.length co65) t422) := ⟨by (with_reducible repeat (first | apply Kd.R_alloc | apply Kd.R_drewN | apply Kd.R_drew)); exact Kd.R_mono (Kd.R_far (p := ⟨gb425, 3, none⟩) (Kd.R_far (p := ⟨gb425, 2, none⟩) (Kd.R_far (p := ⟨gb425, 1, none⟩) (Kd.R_far (p := ⟨gb425, 0, none⟩) (Kd.R_types HO424.out BK425.out (by decide)) (fun _ hk => hk.2) (.int .i64 t419)) (fun _ hk => hk.2) (.int .i64 t420)) (fun _ hk => hk.2) (.int .i64 t421)) (fun _ hk => hk.2) (.slice Ao65 t422.length co65)) (fun _ hk => ⟨hk.1.1.2, hk.1.2⟩)⟩
 have n3_ : Aside0 (((((w60.setCell ⟨gb425, 0, none⟩ (.int .i64 t419)).setCell ⟨gb425, 1, none⟩ (.int .i64 t420)).setCell ⟨gb425, 2, none⟩ (.int .i64 t421)).setCell ⟨gb425, 3, none⟩ (.slice Ao65 t422.length co65)).heap[gb399]? = some (.cells #[.int .i64 a1_0, .int .i64 a1_1, .int .i64 a1_2, .slice A1_3 l1_3.length c1_3] 26 (0, 0))) := fl_ BK399 NB399_425
 have n4_ : Aside0 (((((w60.setCell ⟨gb425, 0, none⟩ (.int .i64 t419)).setCell ⟨gb425, 1, none⟩ (.int .i64 t420)).setCell ⟨gb425, 2, none⟩ (.int .i64 t421)).setCell ⟨gb425, 3, none⟩ (.slice Ao65 t422.length co65)).heap[gb400]? = some (.cells #[.int .i64 a2_0, .int .i64 a2_1, .int .i64 a2_2] 23 (0, 0))) := fl_ BK400 NB400_425
 have n5_ : Aside0 (((((w60.setCell ⟨gb425, 0, none⟩ (.int .i64 t419)).setCell ⟨gb425, 1, none⟩ (.int .i64 t420)).setCell ⟨gb425, 2, none⟩ (.int .i64 t421)).setCell ⟨gb425, 3, none⟩ (.slice Ao65 t422.length co65)).heap[gb418]? = some (.cells #[.int .i64 t411, .int .i64 t412, .int .i64 t413, .slice Ao55 t414.length co55] 34 (0, 0))) := fl_ BK418 NB418_425
 have n6_ : Aside0 (((((w60.setCell ⟨gb425, 0, none⟩ (.int .i64 t419)).setCell ⟨gb425, 1, none⟩ (.int .i64 t420)).setCell ⟨gb425, 2, none⟩ (.int .i64 t421)).setCell ⟨gb425, 3, none⟩ (.slice Ao65 t422.length co65)).heap[gb425]? = some (.cells #[.int .i64 t419, .int .i64 t420, .int .i64 t421, .slice Ao65 t422.length co65] 34 (0, 0))) := bp_ BK425
 have n7_ : Aside0 (Below w.heap.size w ((((w60.setCell ⟨gb425, 0, none⟩ (.int .i64 t419)).setCell ⟨gb425, 1, none⟩ (.int .i64 t420)).setCell ⟨gb425, 2, none⟩ (.int .i64 t421)).setCell ⟨gb425, 3, none⟩ (.slice Ao65 t422.length co65))) := bw_ HB
 (try clear HO407)
 (try clear HO416)
 (try clear HO424)
 (try clear BK399)
 (try clear BK400)
 (try clear BK418)
 (try clear BK425)
 (try clear HB)
 generalize ((((w60.setCell ⟨gb425, 0, none⟩ (.int .i64 t419)).setCell ⟨gb425, 1, none⟩ (.int .i64 t420)).setCell ⟨gb425, 2, none⟩ (.int .i64 t421)).setCell ⟨gb425, 3, none⟩ (.slice Ao65 t422.length co65)) = w66 at n0_ n1_ n2_ n3_ n4_ n5_ n6_ n7_ ⊢
 have HO407 := n0_
 have HO416 := n1_
 have HO424 := n2_
 have BK399 := n3_
 have BK400 := n4_
 have BK418 := n5_
 have BK425 := n6_
 have HB := n7_
 clear n0_ n1_ n2_ n3_ n4_ n5_ n6_ n7_
 replace HO407 := Aside0.mk (Kd.R_drew HO407.out)
 replace HO416 := Aside0.mk (Kd.R_drew HO416.out)
 replace HO424 := Aside0.mk (Kd.R_drew HO424.out)
 replace BK399 := bd_ BK399
 replace BK400 := bd_ BK400
 replace BK418 := bd_ BK418
 replace BK425 := bd_ BK425
 replace HB := be_ HB
 refine start_ (n := 11) (S := fun w' => w'.cell? ⟨gb425, 0, none⟩ = some (.int .i64 t419) ∧ w'.cell? ⟨gb425, 1, none⟩ = some (.int .i64 t420) ∧ w'.cell? ⟨gb425, 2, none⟩ = some (.int .i64 t421) ∧ w'.cell? ⟨gb425, 3, none⟩ = some (.slice Ao65 t422.length co65) ∧ w'.cell? ⟨gb400, 0, none⟩ = some (.int .i64 a2_0) ∧ w'.cell? ⟨gb400, 1, none⟩ = some (.int .i64 a2_1) ∧ w'.cell? ⟨gb400, 2, none⟩ = some (.int .i64 a2_2)) (ds := []) (bv_ 11 0) (by kernel_rfl) rfl rfl ⟨cz_ BK425 0, cz_ BK425 1, cz_ BK425 2, cz_ BK425 3, cz_ BK400 0, cz_ BK400 1, cz_ BK400 2⟩ (fun hHeld => ?_); refine with_tabW laws_FnExactCoarsenAt.tab7 laws_FnExactCoarsenAt.bits7 (fun HT_ HW_ => ?_)
 generalize w66.drew = w67 at HO407 HO416 HO424 BK399 BK400 BK418 BK425 HB hHeld ⊢
 refine px_ HT_ 0 35 1 ?_
 refine ta_ HT_ HW_ 1 (some 36) (bv_ 11 3) hHeld ?_ (hy := by rintro w' ⟨s0, s1, s2, s3, s4, s5, s6⟩; go_simp; with_reducible rfl)
 refine ta_ HT_ HW_ 2 (some 37) (bv_ 11 7) hHeld ?_ (hy := by rintro w' ⟨s0, s1, s2, s3, s4, s5, s6⟩; go_simp; with_reducible rfl)
 refine join_ (σ := Value × Nat) 2 (bv_ 11 511) (fun s_ => [(38, .agg #[.int .i64 t426, .int .i64 t427, .int .i64 t428]), (39, .tuple #[.agg #[.int .i64 t429, .int .i64 t430, .int .i64 t431, s_.1], .int .i64 t435]), (11, .pointer (some ⟨s_.2, 0, none⟩)), (34, .tuple #[.agg #[.int .i64 t429, .int .i64 t430, .int .i64 t431, s_.1], .int .i64 t435]), (40, .agg #[.int .i64 t429, .int .i64 t430, .int .i64 t431, s_.1]), (41, .int .i64 t435)]) (fun s_ w' => (w'.cell? ⟨gb425, 0, none⟩ = some (.int .i64 t419) ∧ w'.cell? ⟨gb425, 1, none⟩ = some (.int .i64 t420) ∧ w'.cell? ⟨gb425, 2, none⟩ = some (.int .i64 t421) ∧ w'.cell? ⟨gb425, 3, none⟩ = some (.slice Ao65 t422.length co65) ∧ w'.cell? ⟨gb400, 0, none⟩ = some (.int .i64 a2_0) ∧ w'.cell? ⟨gb400, 1, none⟩ = some (.int .i64 a2_1) ∧ w'.cell? ⟨gb400, 2, none⟩ = some (.int .i64 a2_2)) ∧ (Kd.R k72 72 w' w.heap.size (fun k_ => some k_ ≠ (.slice Ao55 t414.length co55 : Value).ownBlock ∧ some k_ ≠ (.slice Ao65 t422.length co65 : Value).ownBlock ∧ some k_ ≠ (s_.1 : Value).ownBlock) v406 t405) ∧ (Kd.R k72 72 w' w.heap.size (fun k_ => some k_ ≠ (v406 : Value).ownBlock ∧ some k_ ≠ (.slice Ao65 t422.length co65 : Value).ownBlock ∧ some k_ ≠ (s_.1 : Value).ownBlock) (.slice Ao55 t414.length co55) t414) ∧ (Kd.R k72 72 w' w.heap.size (fun k_ => some k_ ≠ (v406 : Value).ownBlock ∧ some k_ ≠ (.slice Ao55 t414.length co55 : Value).ownBlock ∧ some k_ ≠ (s_.1 : Value).ownBlock) (.slice Ao65 t422.length co65) t422) ∧ (Kd.R k72 72 w' w.heap.size (fun k_ => some k_ ≠ (v406 : Value).ownBlock ∧ some k_ ≠ (.slice Ao55 t414.length co55 : Value).ownBlock ∧ some k_ ≠ (.slice Ao65 t422.length co65 : Value).ownBlock) s_.1 t432) ∧ (w'.heap[gb399]? = some (.cells #[.int .i64 a1_0, .int .i64 a1_1, .int .i64 a1_2, .slice A1_3 l1_3.length c1_3] 26 (0, 0))) ∧ (w'.heap[gb400]? = some (.cells #[.int .i64 a2_0, .int .i64 a2_1, .int .i64 a2_2] 23 (0, 0))) ∧ (w'.heap[gb418]? = some (.cells #[.int .i64 t411, .int .i64 t412, .int .i64 t413, .slice Ao55 t414.length co55] 34 (0, 0))) ∧ (w'.heap[gb425]? = some (.cells #[.int .i64 t419, .int .i64 t420, .int .i64 t421, .slice Ao65 t422.length co65] 34 (0, 0))) ∧ (w'.heap[s_.2]? = some (.cells #[.int .i64 0, .int .i64 0, .int .i64 0, .slice none 0 0] 34 (0, 0))) ∧ (w.heap.size ≤ s_.2) ∧ (w.heap.size ≤ s_.2) ∧ (gb399 ≠ s_.2) ∧ (s_.2 ≠ gb399) ∧ (gb400 ≠ s_.2) ∧ (s_.2 ≠ gb400) ∧ (gb418 ≠ s_.2) ∧ (s_.2 ≠ gb418) ∧ (gb425 ≠ s_.2) ∧ (s_.2 ≠ gb425) ∧ (Below w.heap.size w w')) ?_ ?_
 rotate_left
 ·intro hCont
  refine tw_ HT_ 3 8 (some 38) (some 11) (bv_ 11 15) (bv_ 11 263) (fun K hK => ?_) (fun K hK => ?_)
  ·skip
   refine gs_ Try.func17 #[.agg #[.int .i64 a2_0, .int .i64 a2_1, .int .i64 a2_2]] ?_
   with_reducible refine (laws_toBall.calls a2_0 a2_1 a2_2 t426 t427 t428 _ A15.out).mono ?_
   rintro e w68 ⟨rfl, hb⟩
   refine ⟨_, rfl, ?_⟩
   replace HO407 := rb_ HO407 hb
   replace HO416 := rb_ HO416 hb
   replace HO424 := rb_ HO424 hb
   replace BK399 := bb_ BK399 hb
   replace BK400 := bb_ BK400 hb
   replace BK418 := bb_ BK418 hb
   replace BK425 := bb_ BK425 hb
   replace HB := bt_ HB hb
   try clear hb
   refine hK.out _ _ ⟨cz_ BK425 0, cz_ BK425 1, cz_ BK425 2, cz_ BK425 3, cz_ BK400 0, cz_ BK400 1, cz_ BK400 2⟩ (fun hHeld => ?_)
   clear hK K
   refine nm_ (some 38) ?_
   refine tw_ HT_ 4 8 (some 39) (some 11) (bv_ 11 31) (bv_ 11 271) (fun K hK => ?_) (fun K hK => ?_)
   ·skip
    refine gs_ Try.func18 #[.int .i64 a0, .agg #[.int .i64 t419, .int .i64 t420, .int .i64 t421, .slice Ao65 t422.length co65], .agg #[.int .i64 t426, .int .i64 t427, .int .i64 t428]] ?_
    with_reducible refine (impl_CoarsenAt.calls k a0 t419 t420 t421 _ _ t422 t426 t427 t428 t429 t430 t431 t432 t435 _ ?side1 ?side2 A16.out).mono ?_
    (case side1 => exact ca_ (Kd.R_reads' HO424.out).2.2)
    (case side2 => exact (Kd.R_reads' HO424.out).2.1)
    rintro e w69 ⟨v433, rfl, ho0, hb⟩
    refine ⟨_, rfl, ?_⟩
    have HO434 := Aside0.mk (Kd.R_lower (Kd.R_new' (Kd.R_new' (Kd.R_new' ho0 (Kd.R_lt (ra_ HO407.out))) (Kd.R_lt (ra_ HO416.out))) (Kd.R_lt (ra_ HO424.out))) (below_size (bw_ HB).out))
    replace HO407 := Aside0.mk (Kd.R_elder' (ra_ HO407.out) (Kd.R_base ho0) hb)
    replace HO416 := Aside0.mk (Kd.R_elder' (ra_ HO416.out) (Kd.R_base ho0) hb)
    replace HO424 := Aside0.mk (Kd.R_elder' (ra_ HO424.out) (Kd.R_base ho0) hb)
    replace BK399 := bb_ BK399 hb
    replace BK400 := bb_ BK400 hb
    replace BK418 := bb_ BK418 hb
    replace BK425 := bb_ BK425 hb
    replace HB := bt_ HB hb
    try clear hb
    (try clear ho0)
    refine hK.out _ _ ⟨cz_ BK425 0, cz_ BK425 1, cz_ BK425 2, cz_ BK425 3, cz_ BK400 0, cz_ BK400 1, cz_ BK400 2⟩ (fun hHeld => ?_)
    clear hK K
    refine nm_ (some 39) ?_
    refine px_ HT_ 5 34 63 ?_
    refine px_ HT_ 6 40 127 ?_
    refine px_ HT_ 7 41 255 ?_
    refine on_ HT_ 8 (some 11) (bv_ 11 511) (fun K hK => ?_)
    refine bz_ 11 #[.int .i64 0, .int .i64 0, .int .i64 0, .slice none 0 0] 34 ?_
    intro gb436 hg w70 BK436 hb
    have GW436 := bs_ HB hg
    have NB399_436 := bm_ BK399 hg
    have NB436_399 := bn_ BK399 hg
    have NB400_436 := bm_ BK400 hg
    have NB436_400 := bn_ BK400 hg
    have NB418_436 := bm_ BK418 hg
    have NB436_418 := bn_ BK418 hg
    have NB425_436 := bm_ BK425 hg
    have NB436_425 := bn_ BK425 hg
    replace HO407 := rb_ HO407 hb
    replace HO416 := rb_ HO416 hb
    replace HO424 := rb_ HO424 hb
    replace HO434 := rb_ HO434 hb
    replace BK399 := bb_ BK399 hb
    replace BK400 := bb_ BK400 hb
    replace BK418 := bb_ BK418 hb
    replace BK425 := bb_ BK425 hb
    replace HB := bt_ HB hb
    clear hb hg
    refine hK.out _ _ ⟨cz_ BK425 0, cz_ BK425 1, cz_ BK425 2, cz_ BK425 3, cz_ BK400 0, cz_ BK400 1, cz_ BK400 2⟩ (fun hHeld => ?_)
    clear hK K
    refine nm_ (some 11) ?_
    exact norm_ (by simp only [putAll, Act.put, lstS, lstZ, lstC]) (hCont (v433, gb436) _ ⟨hHeld, (by (with_reducible repeat (first | apply Kd.R_alloc | apply Kd.R_drewN | apply Kd.R_drew)); exact Kd.R_mono HO407.out (fun _ hk => ⟨hk.1.1, ⟨hk.1.2, hk.2⟩⟩)), (by (with_reducible repeat (first | apply Kd.R_alloc | apply Kd.R_drewN | apply Kd.R_drew)); exact Kd.R_mono HO416.out (fun _ hk => ⟨hk.1.1, ⟨hk.1.2, hk.2⟩⟩)), (by (with_reducible repeat (first | apply Kd.R_alloc | apply Kd.R_drewN | apply Kd.R_drew)); exact Kd.R_mono HO424.out (fun _ hk => ⟨hk.1.1, ⟨hk.1.2, hk.2⟩⟩)), (by (with_reducible repeat (first | apply Kd.R_alloc | apply Kd.R_drewN | apply Kd.R_drew)); exact Kd.R_mono HO434.out (fun _ hk => ⟨hk.1.1.2, ⟨hk.1.2, hk.2⟩⟩)), (bl_ BK399).out, (bl_ BK400).out, (bl_ BK418).out, (bl_ BK425).out, (bl_ BK436).out, GW436.out, GW436.out, NB399_436.out, NB436_399.out, NB400_436.out, NB436_400.out, NB418_436.out, NB436_418.out, NB425_436.out, NB436_425.out, (bw_ HB).out⟩)
   skip
   refine bz_ 11 #[.int .i64 0, .int .i64 0, .int .i64 0, .slice none 0 0] 34 ?_
   intro gb436 hg w69 BK436 hb
   have GW436 := bs_ HB hg
   have NB399_436 := bm_ BK399 hg
   have NB436_399 := bn_ BK399 hg
   have NB400_436 := bm_ BK400 hg
   have NB436_400 := bn_ BK400 hg
   have NB418_436 := bm_ BK418 hg
   have NB436_418 := bn_ BK418 hg
   have NB425_436 := bm_ BK425 hg
   have NB436_425 := bn_ BK425 hg
   replace HO407 := rb_ HO407 hb
   replace HO416 := rb_ HO416 hb
   replace HO424 := rb_ HO424 hb
   replace BK399 := bb_ BK399 hb
   replace BK400 := bb_ BK400 hb
   replace BK418 := bb_ BK418 hb
   replace BK425 := bb_ BK425 hb
   replace HB := bt_ HB hb
   clear hb hg
   refine hK.out _ _ ⟨cz_ BK425 0, cz_ BK425 1, cz_ BK425 2, cz_ BK425 3, cz_ BK400 0, cz_ BK400 1, cz_ BK400 2⟩ (fun hHeld => ?_)
   clear hK K
   refine nm_ (some 11) ?_
   refine on_ HT_ 4 (some 39) (bv_ 11 287) (fun K hK => ?_)
   refine gs_ Try.func18 #[.int .i64 a0, .agg #[.int .i64 t419, .int .i64 t420, .int .i64 t421, .slice Ao65 t422.length co65], .agg #[.int .i64 t426, .int .i64 t427, .int .i64 t428]] ?_
   with_reducible refine (impl_CoarsenAt.calls k a0 t419 t420 t421 _ _ t422 t426 t427 t428 t429 t430 t431 t432 t435 _ ?side1 ?side2 A16.out).mono ?_
   (case side1 => exact ca_ (Kd.R_reads' HO424.out).2.2)
   (case side2 => exact (Kd.R_reads' HO424.out).2.1)
   rintro e w70 ⟨v433, rfl, ho0, hb⟩
   refine ⟨_, rfl, ?_⟩
   have HO434 := Aside0.mk (Kd.R_lower (Kd.R_new' (Kd.R_new' (Kd.R_new' ho0 (Kd.R_lt (ra_ HO407.out))) (Kd.R_lt (ra_ HO416.out))) (Kd.R_lt (ra_ HO424.out))) (below_size (bw_ HB).out))
   replace HO407 := Aside0.mk (Kd.R_elder' (ra_ HO407.out) (Kd.R_base ho0) hb)
   replace HO416 := Aside0.mk (Kd.R_elder' (ra_ HO416.out) (Kd.R_base ho0) hb)
   replace HO424 := Aside0.mk (Kd.R_elder' (ra_ HO424.out) (Kd.R_base ho0) hb)
   replace BK399 := bb_ BK399 hb
   replace BK400 := bb_ BK400 hb
   replace BK418 := bb_ BK418 hb
   replace BK425 := bb_ BK425 hb
   replace BK436 := bb_ BK436 hb
   replace HB := bt_ HB hb
   try clear hb
   (try clear ho0)
   refine hK.out _ _ ⟨cz_ BK425 0, cz_ BK425 1, cz_ BK425 2, cz_ BK425 3, cz_ BK400 0, cz_ BK400 1, cz_ BK400 2⟩ (fun hHeld => ?_)
   clear hK K
   refine nm_ (some 39) ?_
   refine px_ HT_ 5 34 319 ?_
   refine px_ HT_ 6 40 383 ?_
   refine px_ HT_ 7 41 511 ?_
   exact norm_ (by simp only [putAll, Act.put, lstS, lstZ, lstC]) (hCont (v433, gb436) _ ⟨hHeld, (by (with_reducible repeat (first | apply Kd.R_alloc | apply Kd.R_drewN | apply Kd.R_drew)); exact Kd.R_mono HO407.out (fun _ hk => ⟨hk.1.1, ⟨hk.1.2, hk.2⟩⟩)), (by (with_reducible repeat (first | apply Kd.R_alloc | apply Kd.R_drewN | apply Kd.R_drew)); exact Kd.R_mono HO416.out (fun _ hk => ⟨hk.1.1, ⟨hk.1.2, hk.2⟩⟩)), (by (with_reducible repeat (first | apply Kd.R_alloc | apply Kd.R_drewN | apply Kd.R_drew)); exact Kd.R_mono HO424.out (fun _ hk => ⟨hk.1.1, ⟨hk.1.2, hk.2⟩⟩)), (by (with_reducible repeat (first | apply Kd.R_alloc | apply Kd.R_drewN | apply Kd.R_drew)); exact Kd.R_mono HO434.out (fun _ hk => ⟨hk.1.1.2, ⟨hk.1.2, hk.2⟩⟩)), (bl_ BK399).out, (bl_ BK400).out, (bl_ BK418).out, (bl_ BK425).out, (bl_ BK436).out, GW436.out, GW436.out, NB399_436.out, NB436_399.out, NB400_436.out, NB436_400.out, NB418_436.out, NB436_418.out, NB425_436.out, NB436_425.out, (bw_ HB).out⟩)
  skip
  refine bz_ 11 #[.int .i64 0, .int .i64 0, .int .i64 0, .slice none 0 0] 34 ?_
  intro gb436 hg w68 BK436 hb
  have GW436 := bs_ HB hg
  have NB399_436 := bm_ BK399 hg
  have NB436_399 := bn_ BK399 hg
  have NB400_436 := bm_ BK400 hg
  have NB436_400 := bn_ BK400 hg
  have NB418_436 := bm_ BK418 hg
  have NB436_418 := bn_ BK418 hg
  have NB425_436 := bm_ BK425 hg
  have NB436_425 := bn_ BK425 hg
  replace HO407 := rb_ HO407 hb
  replace HO416 := rb_ HO416 hb
  replace HO424 := rb_ HO424 hb
  replace BK399 := bb_ BK399 hb
  replace BK400 := bb_ BK400 hb
  replace BK418 := bb_ BK418 hb
  replace BK425 := bb_ BK425 hb
  replace HB := bt_ HB hb
  clear hb hg
  refine hK.out _ _ ⟨cz_ BK425 0, cz_ BK425 1, cz_ BK425 2, cz_ BK425 3, cz_ BK400 0, cz_ BK400 1, cz_ BK400 2⟩ (fun hHeld => ?_)
  clear hK K
  refine nm_ (some 11) ?_
  refine on_ HT_ 3 (some 38) (bv_ 11 271) (fun K hK => ?_)
  refine gs_ Try.func17 #[.agg #[.int .i64 a2_0, .int .i64 a2_1, .int .i64 a2_2]] ?_
  with_reducible refine (laws_toBall.calls a2_0 a2_1 a2_2 t426 t427 t428 _ A15.out).mono ?_
  rintro e w69 ⟨rfl, hb⟩
  refine ⟨_, rfl, ?_⟩
  replace HO407 := rb_ HO407 hb
  replace HO416 := rb_ HO416 hb
  replace HO424 := rb_ HO424 hb
  replace BK399 := bb_ BK399 hb
  replace BK400 := bb_ BK400 hb
  replace BK418 := bb_ BK418 hb
  replace BK425 := bb_ BK425 hb
  replace BK436 := bb_ BK436 hb
  replace HB := bt_ HB hb
  try clear hb
  refine hK.out _ _ ⟨cz_ BK425 0, cz_ BK425 1, cz_ BK425 2, cz_ BK425 3, cz_ BK400 0, cz_ BK400 1, cz_ BK400 2⟩ (fun hHeld => ?_)
  clear hK K
  refine nm_ (some 38) ?_
  refine on_ HT_ 4 (some 39) (bv_ 11 287) (fun K hK => ?_)
  refine gs_ Try.func18 #[.int .i64 a0, .agg #[.int .i64 t419, .int .i64 t420, .int .i64 t421, .slice Ao65 t422.length co65], .agg #[.int .i64 t426, .int .i64 t427, .int .i64 t428]] ?_
  with_reducible refine (impl_CoarsenAt.calls k a0 t419 t420 t421 _ _ t422 t426 t427 t428 t429 t430 t431 t432 t435 _ ?side1 ?side2 A16.out).mono ?_
  (case side1 => exact ca_ (Kd.R_reads' HO424.out).2.2)
  (case side2 => exact (Kd.R_reads' HO424.out).2.1)
  rintro e w70 ⟨v433, rfl, ho0, hb⟩
  refine ⟨_, rfl, ?_⟩
  have HO434 := Aside0.mk (Kd.R_lower (Kd.R_new' (Kd.R_new' (Kd.R_new' ho0 (Kd.R_lt (ra_ HO407.out))) (Kd.R_lt (ra_ HO416.out))) (Kd.R_lt (ra_ HO424.out))) (below_size (bw_ HB).out))
  replace HO407 := Aside0.mk (Kd.R_elder' (ra_ HO407.out) (Kd.R_base ho0) hb)
  replace HO416 := Aside0.mk (Kd.R_elder' (ra_ HO416.out) (Kd.R_base ho0) hb)
  replace HO424 := Aside0.mk (Kd.R_elder' (ra_ HO424.out) (Kd.R_base ho0) hb)
  replace BK399 := bb_ BK399 hb
  replace BK400 := bb_ BK400 hb
  replace BK418 := bb_ BK418 hb
  replace BK425 := bb_ BK425 hb
  replace BK436 := bb_ BK436 hb
  replace HB := bt_ HB hb
  try clear hb
  (try clear ho0)
  refine hK.out _ _ ⟨cz_ BK425 0, cz_ BK425 1, cz_ BK425 2, cz_ BK425 3, cz_ BK400 0, cz_ BK400 1, cz_ BK400 2⟩ (fun hHeld => ?_)
  clear hK K
  refine nm_ (some 39) ?_
  refine px_ HT_ 5 34 319 ?_
  refine px_ HT_ 6 40 383 ?_
  refine px_ HT_ 7 41 511 ?_
  exact norm_ (by simp only [putAll, Act.put, lstS, lstZ, lstC]) (hCont (v433, gb436) _ ⟨hHeld, (by (with_reducible repeat (first | apply Kd.R_alloc | apply Kd.R_drewN | apply Kd.R_drew)); exact Kd.R_mono HO407.out (fun _ hk => ⟨hk.1.1, ⟨hk.1.2, hk.2⟩⟩)), (by (with_reducible repeat (first | apply Kd.R_alloc | apply Kd.R_drewN | apply Kd.R_drew)); exact Kd.R_mono HO416.out (fun _ hk => ⟨hk.1.1, ⟨hk.1.2, hk.2⟩⟩)), (by (with_reducible repeat (first | apply Kd.R_alloc | apply Kd.R_drewN | apply Kd.R_drew)); exact Kd.R_mono HO424.out (fun _ hk => ⟨hk.1.1, ⟨hk.1.2, hk.2⟩⟩)), (by (with_reducible repeat (first | apply Kd.R_alloc | apply Kd.R_drewN | apply Kd.R_drew)); exact Kd.R_mono HO434.out (fun _ hk => ⟨hk.1.1.2, ⟨hk.1.2, hk.2⟩⟩)), (bl_ BK399).out, (bl_ BK400).out, (bl_ BK418).out, (bl_ BK425).out, (bl_ BK436).out, GW436.out, GW436.out, NB399_436.out, NB436_399.out, NB400_436.out, NB436_400.out, NB418_436.out, NB436_418.out, NB425_436.out, NB436_425.out, (bw_ HB).out⟩)
 rintro ⟨v433, gb436⟩ w71 ⟨hS_, h0_, h1_, h2_, h3_, h4_, h5_, h6_, h7_, h8_, h9_, h10_, h11_, h12_, h13_, h14_, h15_, h16_, h17_, h18_, h19_⟩
 clear HO407 HO416 HO424 BK399 BK400 BK418 BK425 HB
 have HO407 := Aside0.mk h0_
 have HO416 := Aside0.mk h1_
 have HO424 := Aside0.mk h2_
 have HO434 := Aside0.mk h3_
 have BK399 := Aside0.mk h4_
 have BK400 := Aside0.mk h5_
 have BK418 := Aside0.mk h6_
 have BK425 := Aside0.mk h7_
 have BK436 := Aside0.mk h8_
 have GW436 := Aside0.mk h9_
 have GW436 := Aside0.mk h10_
 have NB399_436 := Aside0.mk h11_
 have NB436_399 := Aside0.mk h12_
 have NB400_436 := Aside0.mk h13_
 have NB436_400 := Aside0.mk h14_
 have NB418_436 := Aside0.mk h15_
 have NB436_418 := Aside0.mk h16_
 have NB425_436 := Aside0.mk h17_
 have NB436_425 := Aside0.mk h18_
 have HB := Aside0.mk h19_
 clear h0_ h1_ h2_ h3_ h4_ h5_ h6_ h7_ h8_ h9_ h10_ h11_ h12_ h13_ h14_ h15_ h16_ h17_ h18_ h19_
 have hHeld : w71.cell? ⟨gb425, 0, none⟩ = some (.int .i64 t419) ∧ w71.cell? ⟨gb425, 1, none⟩ = some (.int .i64 t420) ∧ w71.cell? ⟨gb425, 2, none⟩ = some (.int .i64 t421) ∧ w71.cell? ⟨gb425, 3, none⟩ = some (.slice Ao65 t422.length co65) ∧ w71.cell? ⟨gb400, 0, none⟩ = some (.int .i64 a2_0) ∧ w71.cell? ⟨gb400, 1, none⟩ = some (.int .i64 a2_1) ∧ w71.cell? ⟨gb400, 2, none⟩ = some (.int .i64 a2_2) := hS_
 obtain ⟨Ao75, co75, eo75⟩ := Kd.R_slice HO434.out
 (first | subst eo75 | (injection eo75 with f1_ f2_ f3_; have f4_ := f1_.symm; have f5_ := f3_.symm; clear f1_ f2_ f3_; subst f4_; subst f5_))
 refine norm_ (a' := ?_) ?_ ?_
 rotate_left
 ·simp only [putAll, Act.put, lstS, lstZ, lstC]
  rfl
 refine on_ HT_ 9 none (bv_ 11 1023) (fun K hK => ?_)
 have hs72 : w71.cell? ⟨gb436, 0, none⟩ = some (.int .i64 0) := (blk_cell BK436.out 0).trans rfl
 have hfs72 := blk_frozen BK436.out 0
 have hns72_0 := NB399_436.out
 have hns72_1 := NB400_436.out
 have hns72_2 := NB418_436.out
 have hns72_3 := NB425_436.out
 have hms72_0 := NB436_399.out
 have hms72_1 := NB436_400.out
 have hms72_2 := NB436_418.out
 have hms72_3 := NB436_425.out
 have hs73 : w71.cell? ⟨gb436, 1, none⟩ = some (.int .i64 0) := (blk_cell BK436.out 1).trans rfl
 have hfs73 := blk_frozen BK436.out 1
 have hns73_0 := NB399_436.out
 have hns73_1 := NB400_436.out
 have hns73_2 := NB418_436.out
 have hns73_3 := NB425_436.out
 have hms73_0 := NB436_399.out
 have hms73_1 := NB436_400.out
 have hms73_2 := NB436_418.out
 have hms73_3 := NB436_425.out
 have hs74 : w71.cell? ⟨gb436, 2, none⟩ = some (.int .i64 0) := (blk_cell BK436.out 2).trans rfl
 have hfs74 := blk_frozen BK436.out 2
 have hns74_0 := NB399_436.out
 have hns74_1 := NB400_436.out
 have hns74_2 := NB418_436.out
 have hns74_3 := NB425_436.out
 have hms74_0 := NB436_399.out
 have hms74_1 := NB436_400.out
 have hms74_2 := NB436_418.out
 have hms74_3 := NB436_425.out
 have hs76 : w71.cell? ⟨gb436, 3, none⟩ = some (.slice none 0 0) := (blk_cell BK436.out 3).trans rfl
 have hfs76 := blk_frozen BK436.out 3
 have hns76_0 := NB399_436.out
 have hns76_1 := NB400_436.out
 have hns76_2 := NB418_436.out
 have hns76_3 := NB425_436.out
 have hms76_0 := NB436_399.out
 have hms76_1 := NB436_400.out
 have hms76_2 := NB436_418.out
 have hms76_3 := NB436_425.out
 refine skip_ (w1 := ?_) (by rfl) rfl ?_ ?_
 rotate_left
 ·go_simp
  rfl
 refine hK.out _ _ ⟨(cg_ NB425_436 ((cg_ NB425_436 ((cg_ NB425_436 ((cg_ NB425_436 (hHeld.1)))))))), (cg_ NB425_436 ((cg_ NB425_436 ((cg_ NB425_436 ((cg_ NB425_436 (hHeld.2.1)))))))), (cg_ NB425_436 ((cg_ NB425_436 ((cg_ NB425_436 ((cg_ NB425_436 (hHeld.2.2.1)))))))), (cg_ NB425_436 ((cg_ NB425_436 ((cg_ NB425_436 ((cg_ NB425_436 (hHeld.2.2.2.1)))))))), (cg_ NB400_436 ((cg_ NB400_436 ((cg_ NB400_436 ((cg_ NB400_436 (hHeld.2.2.2.2.1)))))))), (cg_ NB400_436 ((cg_ NB400_436 ((cg_ NB400_436 ((cg_ NB400_436 (hHeld.2.2.2.2.2.1)))))))), (cg_ NB400_436 ((cg_ NB400_436 ((cg_ NB400_436 ((cg_ NB400_436 (hHeld.2.2.2.2.2.2))))))))⟩ (fun hHeld => ?_)
 clear hK K
 refine px_ HT_ 10 12 2047 ?_
 refine done_ (done_of HT_.out (by kernel_rfl)) ?_
 have hnb77 := NB436_399.out
 have hnc77 := NB399_436.out
 have hnb78 := NB436_400.out
 have hnc78 := NB400_436.out
 have hnb79 := NB436_418.out
 have hnc79 := NB418_436.out
 have hnb80 := NB436_425.out
 have hnc80 := NB425_436.out
 obtain ⟨hcz81_0, hcz81_1, hcz81_2, hcz81_3, hfz81_0, hfz81_1, hfz81_2, hfz81_3⟩ := ch4_ BK436
 have hnb82 := NB418_400.out
 have hnc82 := NB400_418.out
 obtain ⟨hcz83_0, hcz83_1, hcz83_2, hcz83_3, hfz83_0, hfz83_1, hfz83_2, hfz83_3⟩ := ch4_ BK418
 try go_wp2_with (first | ((refine gc_ 12 ?_); refine ge_ 44 Try.func12 #[.agg #[.int .i64 t429, .int .i64 t430, .int .i64 t431, .slice Ao75 t432.length co75], .agg #[.int .i64 t411, .int .i64 t412, .int .i64 t413, .slice Ao55 t414.length co55]] ?_; (with_reducible refine (laws_eqMeasure.calls k t429 t430 t431 _ _ t432 t411 t412 t413 _ _ t414 true _ ?side1 ?side2 ?side3 ?side4 A17.out).mono ?_); (case side1 => refine (Kd.R_reads' (e := 72) (base := w.heap.size) (ok := fun k_ => (some k_ ≠ (v406 : Value).ownBlock ∧ (some k_ ≠ (.slice Ao55 t414.length co55 : Value).ownBlock ∧ some k_ ≠ (.slice Ao65 t422.length co65 : Value).ownBlock))) (n := t432.length) (c := co75) ?_).2.2; exact (ra_ (rs4_ HO434.out BK436.out))); (case side2 => exact (Kd.R_reads' HO434.out).2.1); (case side3 => refine (Kd.R_reads' (e := 72) (base := w.heap.size) (ok := fun k_ => (some k_ ≠ (v406 : Value).ownBlock ∧ (some k_ ≠ (.slice Ao65 t422.length co65 : Value).ownBlock ∧ some k_ ≠ (.slice Ao75 t432.length co75 : Value).ownBlock))) (n := t414.length) (c := co55) ?_).2.2; exact (ra_ (rs4_ HO416.out BK436.out))); (case side4 => exact (Kd.R_reads' HO416.out).2.1); rintro e w84 ⟨rfl, hb⟩; refine ⟨_, rfl, ?_⟩; replace HO407 := Aside0.mk (Kd.R_below (ra_ (rs4_ HO407.out BK436.out)) hb); replace HO416 := Aside0.mk (Kd.R_below (ra_ (rs4_ HO416.out BK436.out)) hb); replace HO424 := Aside0.mk (Kd.R_below (ra_ (rs4_ HO424.out BK436.out)) hb); replace HO434 := Aside0.mk (Kd.R_below (ra_ (rs4_ HO434.out BK436.out)) hb); replace BK399 := fb_ BK399 NB399_436 hb; replace BK400 := fb_ BK400 NB400_436 hb; replace BK418 := fb_ BK418 NB418_436 hb; replace BK425 := fb_ BK425 NB425_436 hb; replace BK436 := Aside0.mk (blk_below (g := gb436) (o := .cells #[.int .i64 t429, .int .i64 t430, .int .i64 t431, .slice Ao75 t432.length co75] 34 (0, 0)) (bp_ BK436).out hb); replace HB := bt_ HB hb; (try clear hb)))
 replace HO407 := Aside0.mk (Kd.R_drew HO407.out)
 replace HO416 := Aside0.mk (Kd.R_drew HO416.out)
 replace HO424 := Aside0.mk (Kd.R_drew HO424.out)
 replace HO434 := Aside0.mk (Kd.R_drew HO434.out)
 replace BK399 := bd_ BK399
 replace BK400 := bd_ BK400
 replace BK418 := bd_ BK418
 replace BK425 := bd_ BK425
 replace BK436 := bd_ BK436
 replace HB := be_ HB
 refine start_ (n := 5) (S := fun w' => w'.cell? ⟨gb425, 0, none⟩ = some (.int .i64 t419) ∧ w'.cell? ⟨gb425, 1, none⟩ = some (.int .i64 t420) ∧ w'.cell? ⟨gb425, 2, none⟩ = some (.int .i64 t421) ∧ w'.cell? ⟨gb425, 3, none⟩ = some (.slice Ao65 t422.length co65) ∧ w'.cell? ⟨gb399, 0, none⟩ = some (.int .i64 a1_0) ∧ w'.cell? ⟨gb399, 1, none⟩ = some (.int .i64 a1_1) ∧ w'.cell? ⟨gb399, 2, none⟩ = some (.int .i64 a1_2) ∧ w'.cell? ⟨gb399, 3, none⟩ = some (.slice A1_3 l1_3.length c1_3)) (ds := []) (bv_ 5 0) (by kernel_rfl) rfl rfl ⟨cz_ BK425 0, cz_ BK425 1, cz_ BK425 2, cz_ BK425 3, cz_ BK399 0, cz_ BK399 1, cz_ BK399 2, cz_ BK399 3⟩ (fun hHeld => ?_)
 generalize w84.drew = w85 at HO407 HO416 HO424 HO434 BK399 BK400 BK418 BK425 BK436 HB hHeld ⊢
 refine take_ (i := 0) (N := some 51) (v := ?_) (a' := ?_) (bv_ 5 1) rfl rfl (by kernel_rfl) (fun _ _ _ h => h) (Or.inl ⟨by rfl, ?_⟩) hHeld ?_ ?_
 rotate_left
 ·rintro w' ⟨s0, s1, s2, s3, s4, s5, s6, s7⟩
  go_simp
  with_reducible rfl
 rotate_left
 ·simp only [Act.put, lstS, lstZ, lstC, i64_w, i32_w]
  rfl
 refine take_ (i := 1) (N := some 52) (v := ?_) (a' := ?_) (bv_ 5 3) rfl rfl (by kernel_rfl) (fun _ _ _ h => h) (Or.inl ⟨by rfl, ?_⟩) hHeld ?_ ?_
 rotate_left
 ·rintro w' ⟨s0, s1, s2, s3, s4, s5, s6, s7⟩
  go_simp
  with_reducible rfl
 rotate_left
 ·simp only [Act.put, lstS, lstZ, lstC, i64_w, i32_w]
  rfl
 refine one_ (i := 2) (N := some 53) (bv_ 5 7) rfl rfl (by kernel_rfl) (by decide) (fun K hK => ?_)
 refine gs_ Try.func9 #[.agg #[.int .i64 a1_0, .int .i64 a1_1, .int .i64 a1_2, .slice A1_3 l1_3.length c1_3]] ?_
 with_reducible refine (laws_toMeasure.calls k a1_0 a1_1 a1_2 _ _ l1_3 t438 t439 t440 t441 _ ?side1 ?side2 A20.out).mono ?_
 (case side1 => exact ca_ (Kd.C_below HR1_3.out HB.out))
 (case side2 => exact HC1_3.out)
 rintro e w86 ⟨v442, rfl, ho0, hb⟩
 refine ⟨_, rfl, ?_⟩
 have HO443 := Aside0.mk (Kd.R_lower (Kd.R_new' (Kd.R_new' (Kd.R_new' (Kd.R_new' ho0 (Kd.R_lt (ra_ HO407.out))) (Kd.R_lt (ra_ HO416.out))) (Kd.R_lt (ra_ HO424.out))) (Kd.R_lt (ra_ HO434.out))) (below_size (bw_ HB).out))
 replace HO407 := Aside0.mk (Kd.R_elder' (ra_ HO407.out) (Kd.R_base ho0) hb)
 replace HO416 := Aside0.mk (Kd.R_elder' (ra_ HO416.out) (Kd.R_base ho0) hb)
 replace HO424 := Aside0.mk (Kd.R_elder' (ra_ HO424.out) (Kd.R_base ho0) hb)
 replace HO434 := Aside0.mk (Kd.R_elder' (ra_ HO434.out) (Kd.R_base ho0) hb)
 replace BK399 := bb_ BK399 hb
 replace BK400 := bb_ BK400 hb
 replace BK418 := bb_ BK418 hb
 replace BK425 := bb_ BK425 hb
 replace BK436 := bb_ BK436 hb
 replace HB := bt_ HB hb
 try clear hb
 (try clear ho0)
 obtain ⟨Ao87, co87, eo87⟩ := Kd.R_slice HO443.out
 (first | subst eo87 | (injection eo87 with f1_ f2_ f3_; have f4_ := f1_.symm; have f5_ := f3_.symm; clear f1_ f2_ f3_; subst f4_; subst f5_))
 refine hK.out _ _ ⟨cz_ BK425 0, cz_ BK425 1, cz_ BK425 2, cz_ BK425 3, cz_ BK399 0, cz_ BK399 1, cz_ BK399 2, cz_ BK399 3⟩ (fun hHeld => ?_)
 clear hK K
 refine nm_ (some 53) ?_
 refine one_ (i := 3) (N := some 54) (bv_ 5 15) rfl rfl (by kernel_rfl) (by decide) (fun K hK => ?_)
 refine gs_ Try.func12 #[.agg #[.int .i64 t419, .int .i64 t420, .int .i64 t421, .slice Ao65 t422.length co65], .agg #[.int .i64 t438, .int .i64 t439, .int .i64 t440, .slice Ao87 t441.length co87]] ?_
 with_reducible refine (laws_eqMeasure.calls k t419 t420 t421 _ _ t422 t438 t439 t440 _ _ t441 true _ ?side1 ?side2 ?side3 ?side4 A21.out).mono ?_
 (case side1 => exact ca_ (Kd.R_reads' HO424.out).2.2)
 (case side2 => exact (Kd.R_reads' HO424.out).2.1)
 (case side3 => exact ca_ (Kd.R_reads' HO443.out).2.2)
 (case side4 => exact (Kd.R_reads' HO443.out).2.1)
 rintro e w88 ⟨rfl, hb⟩
 refine ⟨_, rfl, ?_⟩
 replace HO407 := rb_ HO407 hb
 replace HO416 := rb_ HO416 hb
 replace HO424 := rb_ HO424 hb
 replace HO434 := rb_ HO434 hb
 replace HO443 := rb_ HO443 hb
 replace BK399 := bb_ BK399 hb
 replace BK400 := bb_ BK400 hb
 replace BK418 := bb_ BK418 hb
 replace BK425 := bb_ BK425 hb
 replace BK436 := bb_ BK436 hb
 replace HB := bt_ HB hb
 try clear hb
 refine hK.out _ _ ⟨cz_ BK425 0, cz_ BK425 1, cz_ BK425 2, cz_ BK425 3, cz_ BK399 0, cz_ BK399 1, cz_ BK399 2, cz_ BK399 3⟩ (fun hHeld => ?_)
 clear hK K
 refine nm_ (some 54) ?_
 refine pure_ (i := 4) (N := some 55) (v := ?_) (a' := ?_) (bv_ 5 31) rfl rfl (by kernel_rfl) (fun _ _ _ h => h) (Or.inl ⟨by rfl, ?_⟩) ?_ ?_
 rotate_left
 ·intro w'
  go_simp
  with_reducible rfl
 rotate_left
 ·simp only [Act.put, lstS, lstZ, lstC, i64_w, i32_w]
  rfl
 refine done_ (by kernel_rfl) ?_
 obtain ⟨hcz89_0, hcz89_1, hcz89_2, hcz89_3, hfz89_0, hfz89_1, hfz89_2, hfz89_3⟩ := ch4_ BK425
 try go_wp2_with (first | ((refine gc_ 13 ?_); refine ge_ 58 Try.func13 #[.agg #[.int .i64 t419, .int .i64 t420, .int .i64 t421, .slice Ao65 t422.length co65], .int .i64 1] ?_; (with_reducible refine (laws_markMeasure.calls k t419 t420 t421 (fun k_ => some k_ = (.slice Ao65 t422.length co65 : Value).ownBlock) (.slice Ao65 t422.length co65) t422 1 t445 t446 w _ ?side1 ?side2 A23.out).mono ?_); (case side1 => repeat (first | (with_reducible first | exact HB.out | apply below_alloc | apply pw_below_drewN | apply below_drew1 | refine below_set ?_ GW399.out | refine below_set ?_ GW400.out | refine below_set ?_ GW418.out | refine below_set ?_ GW425.out | refine below_set ?_ GW436.out) | exact HB.out)); (case side2 => exact Kd.R_tight rfl HO424.out); rintro e w90 ⟨rfl, hy0, hb, hkp⟩; refine ⟨_, rfl, ?_⟩; replace BK399 := Aside0.mk (blk_kept (bl_ BK399).out hkp (fun hs_ => (fun e_ => (Kd.R_ne HO424.out BK399.out (by decide)) e_) hs_)); replace BK400 := Aside0.mk (blk_kept (bl_ BK400).out hkp (fun hs_ => (fun e_ => (Kd.R_ne HO424.out BK400.out (by decide)) e_) hs_)); replace HO407 := Aside0.mk (Kd.R_mono (ok' := fun k_ => some k_ ≠ (.slice Ao55 t414.length co55 : Value).ownBlock ∧ some k_ ≠ (.slice Ao65 t422.length co65 : Value).ownBlock ∧ some k_ ≠ (.slice Ao75 t432.length co75 : Value).ownBlock ∧ some k_ ≠ (.slice Ao87 t441.length co87 : Value).ownBlock) (Kd.R_keptB (HO407.out) hkp (fun k_ hk_ hs_ => (hk_.1.2.1) hs_)) (fun k_ hk_ => ⟨hk_.1.1.1, hk_.1.1.2.1, hk_.1.1.2.2, hk_.1.2⟩)); replace HO416 := Aside0.mk (Kd.R_mono (ok' := fun k_ => some k_ ≠ (v406 : Value).ownBlock ∧ some k_ ≠ (.slice Ao65 t422.length co65 : Value).ownBlock ∧ some k_ ≠ (.slice Ao75 t432.length co75 : Value).ownBlock ∧ some k_ ≠ (.slice Ao87 t441.length co87 : Value).ownBlock) (Kd.R_keptB (HO416.out) hkp (fun k_ hk_ hs_ => (hk_.1.2.1) hs_)) (fun k_ hk_ => ⟨hk_.1.1.1, hk_.1.1.2.1, hk_.1.1.2.2, hk_.1.2⟩)); replace BK418 := Aside0.mk (blk_kept (bl_ BK418).out hkp (fun hs_ => (fun e_ => (Kd.R_ne HO424.out BK418.out (by decide)) e_) hs_)); replace BK425 := Aside0.mk (blk_kept (bl_ BK425).out hkp (fun hs_ => (fun e_ => (Kd.R_ne HO424.out BK425.out (by decide)) e_) hs_)); replace HO434 := Aside0.mk (Kd.R_mono (ok' := fun k_ => some k_ ≠ (v406 : Value).ownBlock ∧ some k_ ≠ (.slice Ao55 t414.length co55 : Value).ownBlock ∧ some k_ ≠ (.slice Ao65 t422.length co65 : Value).ownBlock ∧ some k_ ≠ (.slice Ao87 t441.length co87 : Value).ownBlock) (Kd.R_keptB (HO434.out) hkp (fun k_ hk_ hs_ => (hk_.1.2.2) hs_)) (fun k_ hk_ => ⟨hk_.1.1.1, hk_.1.1.2.1, hk_.1.1.2.2, hk_.1.2⟩)); replace BK436 := Aside0.mk (blk_kept (bl_ BK436).out hkp (fun hs_ => (fun e_ => (Kd.R_ne HO424.out BK436.out (by decide)) e_) hs_)); replace HO424 := Aside0.mk (Kd.R_reok rfl hy0 (fun k_ e_ => HO424.out.1 k_ e_)); replace HO443 := Aside0.mk (Kd.R_mono (ok' := fun k_ => some k_ ≠ (v406 : Value).ownBlock ∧ some k_ ≠ (.slice Ao55 t414.length co55 : Value).ownBlock ∧ some k_ ≠ (.slice Ao65 t422.length co65 : Value).ownBlock ∧ some k_ ≠ (.slice Ao75 t432.length co75 : Value).ownBlock) (Kd.R_keptB (HO443.out) hkp (fun k_ hk_ hs_ => (hk_.1.2) hs_)) (fun k_ hk_ => ⟨hk_.1.1.1.1.2, hk_.1.1.1.2, hk_.1.1.2, hk_.1.2⟩)); replace HB := Aside0.mk (hb); (try clear hb); (try clear hkp); (try clear hy0); obtain ⟨hcz91_0, hcz91_1, hcz91_2, hcz91_3, hfz91_0, hfz91_1, hfz91_2, hfz91_3⟩ := ch4_ BK436; obtain ⟨hcz92_0, hcz92_1, hcz92_2, hcz92_3, hfz92_0, hfz92_1, hfz92_2, hfz92_3⟩ := ch4_ BK418) | (go_at_call 12; (with_reducible refine (laws_eqMeasure.calls k t429 t430 t431 _ _ t432 t411 t412 t413 _ _ t414 true _ ?side1 ?side2 ?side3 ?side4 A25.out).mono ?_); (case side1 => exact ca_ (Kd.R_reads' HO434.out).2.2); (case side2 => exact (Kd.R_reads' HO434.out).2.1); (case side3 => exact ca_ (Kd.R_reads' HO416.out).2.2); (case side4 => exact (Kd.R_reads' HO416.out).2.1); rintro e w93 ⟨rfl, hb⟩; replace HO407 := rb_ HO407 hb; replace HO416 := rb_ HO416 hb; replace HO424 := rb_ HO424 hb; replace HO434 := rb_ HO434 hb; replace HO443 := rb_ HO443 hb; replace BK399 := bb_ BK399 hb; replace BK400 := bb_ BK400 hb; replace BK418 := bb_ BK418 hb; replace BK425 := bb_ BK425 hb; replace BK436 := bb_ BK436 hb; replace HB := bt_ HB hb; (try clear hb); obtain ⟨hcz94_0, hcz94_1, hcz94_2, hcz94_3, hfz94_0, hfz94_1, hfz94_2, hfz94_3⟩ := ch4_ BK436) | ((refine gc_ 13 ?_); refine ge_ 74 Try.func13 #[.agg #[.int .i64 t429, .int .i64 t430, .int .i64 t431, .slice Ao75 t432.length co75], .int .i64 1] ?_; (with_reducible refine (laws_markMeasure.calls k t429 t430 t431 (fun k_ => some k_ = (.slice Ao75 t432.length co75 : Value).ownBlock) (.slice Ao75 t432.length co75) t432 1 t448 t449 w _ ?side1 ?side2 A27.out).mono ?_); (case side1 => repeat (first | (with_reducible first | exact HB.out | apply below_alloc | apply pw_below_drewN | apply below_drew1 | refine below_set ?_ GW399.out | refine below_set ?_ GW400.out | refine below_set ?_ GW418.out | refine below_set ?_ GW425.out | refine below_set ?_ GW436.out) | exact HB.out)); (case side2 => exact Kd.R_tight rfl HO434.out); rintro e w95 ⟨rfl, hy0, hb, hkp⟩; refine ⟨_, rfl, ?_⟩; replace BK399 := Aside0.mk (blk_kept (bl_ BK399).out hkp (fun hs_ => (fun e_ => (Kd.R_ne HO434.out BK399.out (by decide)) e_) hs_)); replace BK400 := Aside0.mk (blk_kept (bl_ BK400).out hkp (fun hs_ => (fun e_ => (Kd.R_ne HO434.out BK400.out (by decide)) e_) hs_)); replace HO407 := Aside0.mk (Kd.R_mono (ok' := fun k_ => some k_ ≠ (.slice Ao55 t414.length co55 : Value).ownBlock ∧ some k_ ≠ (.slice Ao65 t422.length co65 : Value).ownBlock ∧ some k_ ≠ (.slice Ao75 t432.length co75 : Value).ownBlock ∧ some k_ ≠ (.slice Ao87 t441.length co87 : Value).ownBlock) (Kd.R_keptB (HO407.out) hkp (fun k_ hk_ hs_ => (hk_.2.2.1) hs_)) (fun k_ hk_ => ⟨hk_.1.1, hk_.1.2.1, hk_.1.2.2.1, hk_.1.2.2.2⟩)); replace HO416 := Aside0.mk (Kd.R_mono (ok' := fun k_ => some k_ ≠ (v406 : Value).ownBlock ∧ some k_ ≠ (.slice Ao65 t422.length co65 : Value).ownBlock ∧ some k_ ≠ (.slice Ao75 t432.length co75 : Value).ownBlock ∧ some k_ ≠ (.slice Ao87 t441.length co87 : Value).ownBlock) (Kd.R_keptB (HO416.out) hkp (fun k_ hk_ hs_ => (hk_.2.2.1) hs_)) (fun k_ hk_ => ⟨hk_.1.1, hk_.1.2.1, hk_.1.2.2.1, hk_.1.2.2.2⟩)); replace BK418 := Aside0.mk (blk_kept (bl_ BK418).out hkp (fun hs_ => (fun e_ => (Kd.R_ne HO434.out BK418.out (by decide)) e_) hs_)); replace HO424 := Aside0.mk (Kd.R_mono (ok' := fun k_ => some k_ ≠ (v406 : Value).ownBlock ∧ some k_ ≠ (.slice Ao55 t414.length co55 : Value).ownBlock ∧ some k_ ≠ (.slice Ao75 t432.length co75 : Value).ownBlock ∧ some k_ ≠ (.slice Ao87 t441.length co87 : Value).ownBlock) (Kd.R_keptB (HO424.out) hkp (fun k_ hk_ hs_ => (hk_.1.2.2) hs_)) (fun k_ hk_ => ⟨hk_.1.1.1, hk_.1.1.2.1, hk_.1.1.2.2, hk_.1.2⟩)); replace BK425 := Aside0.mk (blk_kept (bl_ BK425).out hkp (fun hs_ => (fun e_ => (Kd.R_ne HO434.out BK425.out (by decide)) e_) hs_)); replace BK436 := Aside0.mk (blk_kept (bl_ BK436).out hkp (fun hs_ => (fun e_ => (Kd.R_ne HO434.out BK436.out (by decide)) e_) hs_)); replace HO434 := Aside0.mk (Kd.R_reok rfl hy0 (fun k_ e_ => HO434.out.1 k_ e_)); replace HO443 := Aside0.mk (Kd.R_mono (ok' := fun k_ => some k_ ≠ (v406 : Value).ownBlock ∧ some k_ ≠ (.slice Ao55 t414.length co55 : Value).ownBlock ∧ some k_ ≠ (.slice Ao65 t422.length co65 : Value).ownBlock ∧ some k_ ≠ (.slice Ao75 t432.length co75 : Value).ownBlock) (Kd.R_keptB (HO443.out) hkp (fun k_ hk_ hs_ => (hk_.2.2.2) hs_)) (fun k_ hk_ => ⟨hk_.1.1, hk_.1.2.1, hk_.1.2.2.1, hk_.1.2.2.2⟩)); replace HB := Aside0.mk (hb); (try clear hb); (try clear hkp); (try clear hy0); obtain ⟨hcz96_0, hcz96_1, hcz96_2, hcz96_3, hfz96_0, hfz96_1, hfz96_2, hfz96_3⟩ := ch4_ BK436) | ((refine gc_ 19 ?_); refine goesL_ (some 77) rfl rfl Try.func19 (by kernel_rfl) rfl #[.agg #[.int .i64 t429, .int .i64 t430, .int .i64 t431, .slice Ao75 t449.length co75], .int .i64 1] rfl (by (try simp only [List.map_toArray, List.map_cons, List.map_nil]); first | done | (rw [show t449.length = t432.length from (Kd.R_reads' HO434.out).1.symm] <;> rfl) | rfl | (simp only [List.length_drop, List.length_take]; rfl)) ?_; (with_reducible refine (laws_heldMeasure.calls k t429 t430 t431 _ _ t449 1 t450 _ ?side1 ?side2 A28.out).mono ?_); (case side1 => exact ca_ (Kd.R_reads' HO434.out).2.2); (case side2 => rw [show t449.length = t432.length from (Kd.R_reads' HO434.out).1.symm]; exact (Kd.R_reads' HO434.out).2.1); rintro e w97 ⟨rfl, hb⟩; refine ⟨_, rfl, ?_⟩; replace HO407 := rb_ HO407 hb; replace HO416 := rb_ HO416 hb; replace HO424 := rb_ HO424 hb; replace HO434 := rb_ HO434 hb; replace HO443 := rb_ HO443 hb; replace BK399 := bb_ BK399 hb; replace BK400 := bb_ BK400 hb; replace BK418 := bb_ BK418 hb; replace BK425 := bb_ BK425 hb; replace BK436 := bb_ BK436 hb; replace HB := bt_ HB hb; (try clear hb)))
 replace HO407 := Aside0.mk (Kd.R_drew HO407.out)
 replace HO416 := Aside0.mk (Kd.R_drew HO416.out)
 replace HO424 := Aside0.mk (Kd.R_drew HO424.out)
 replace HO434 := Aside0.mk (Kd.R_drew HO434.out)
 replace HO443 := Aside0.mk (Kd.R_drew HO443.out)
 replace BK399 := bd_ BK399
 replace BK400 := bd_ BK400
 replace BK418 := bd_ BK418
 replace BK425 := bd_ BK425
 replace BK436 := bd_ BK436
 replace HB := be_ HB
 refine start_ (n := 12) (S := fun w' => w'.cell? ⟨gb399, 0, none⟩ = some (.int .i64 a1_0) ∧ w'.cell? ⟨gb399, 1, none⟩ = some (.int .i64 a1_1) ∧ w'.cell? ⟨gb399, 2, none⟩ = some (.int .i64 a1_2) ∧ w'.cell? ⟨gb399, 3, none⟩ = some (.slice A1_3 l1_3.length c1_3) ∧ w'.cell? ⟨gb400, 0, none⟩ = some (.int .i64 a2_0) ∧ w'.cell? ⟨gb400, 1, none⟩ = some (.int .i64 a2_1) ∧ w'.cell? ⟨gb400, 2, none⟩ = some (.int .i64 a2_2)) (ds := []) (bv_ 12 0) (by kernel_rfl) rfl rfl ⟨cz_ BK399 0, cz_ BK399 1, cz_ BK399 2, cz_ BK399 3, cz_ BK400 0, cz_ BK400 1, cz_ BK400 2⟩ (fun hHeld => ?_); refine with_tabW laws_FnExactCoarsenAt.tab24 laws_FnExactCoarsenAt.bits24 (fun HT_ HW_ => ?_)
 generalize w97.drew = w98 at HO407 HO416 HO424 HO434 HO443 BK399 BK400 BK418 BK425 BK436 HB hHeld ⊢
 refine px_ HT_ 0 84 1 ?_
 refine ta_ HT_ HW_ 1 (some 85) (bv_ 12 3) hHeld ?_ (hy := by rintro w' ⟨s0, s1, s2, s3, s4, s5, s6⟩; go_simp; with_reducible rfl)
 refine ta_ HT_ HW_ 3 (some 87) (bv_ 12 11) hHeld ?_ (hy := by rintro w' ⟨s0, s1, s2, s3, s4, s5, s6⟩; go_simp; with_reducible rfl)
 refine join_ (σ := Value × Value × Nat) 2 (bv_ 12 1023) (fun s_ => [(86, .agg #[.int .i64 t451, .int .i64 t452, .int .i64 t453, s_.1]), (88, .agg #[.int .i64 t457, .int .i64 t458, .int .i64 t459]), (89, .tuple #[.agg #[.int .i64 t460, .int .i64 t461, .int .i64 t462, s_.2.1], .int .i64 t466]), (16, .pointer (some ⟨s_.2.2, 0, none⟩)), (83, .tuple #[.agg #[.int .i64 t460, .int .i64 t461, .int .i64 t462, s_.2.1], .int .i64 t466]), (90, .agg #[.int .i64 t460, .int .i64 t461, .int .i64 t462, s_.2.1]), (91, .int .i64 t466)]) (fun s_ w' => (w'.cell? ⟨gb399, 0, none⟩ = some (.int .i64 a1_0) ∧ w'.cell? ⟨gb399, 1, none⟩ = some (.int .i64 a1_1) ∧ w'.cell? ⟨gb399, 2, none⟩ = some (.int .i64 a1_2) ∧ w'.cell? ⟨gb399, 3, none⟩ = some (.slice A1_3 l1_3.length c1_3) ∧ w'.cell? ⟨gb400, 0, none⟩ = some (.int .i64 a2_0) ∧ w'.cell? ⟨gb400, 1, none⟩ = some (.int .i64 a2_1) ∧ w'.cell? ⟨gb400, 2, none⟩ = some (.int .i64 a2_2)) ∧ (Kd.R k72 72 w' w.heap.size (fun k_ => some k_ ≠ (.slice Ao55 t414.length co55 : Value).ownBlock ∧ some k_ ≠ (.slice Ao65 t422.length co65 : Value).ownBlock ∧ some k_ ≠ (.slice Ao75 t432.length co75 : Value).ownBlock ∧ some k_ ≠ (.slice Ao87 t441.length co87 : Value).ownBlock ∧ some k_ ≠ (s_.1 : Value).ownBlock ∧ some k_ ≠ (s_.2.1 : Value).ownBlock) v406 t405) ∧ (Kd.R k72 72 w' w.heap.size (fun k_ => some k_ ≠ (v406 : Value).ownBlock ∧ some k_ ≠ (.slice Ao65 t422.length co65 : Value).ownBlock ∧ some k_ ≠ (.slice Ao75 t432.length co75 : Value).ownBlock ∧ some k_ ≠ (.slice Ao87 t441.length co87 : Value).ownBlock ∧ some k_ ≠ (s_.1 : Value).ownBlock ∧ some k_ ≠ (s_.2.1 : Value).ownBlock) (.slice Ao55 t414.length co55) t414) ∧ (Kd.R k72 72 w' w.heap.size (fun k_ => some k_ ≠ (v406 : Value).ownBlock ∧ some k_ ≠ (.slice Ao55 t414.length co55 : Value).ownBlock ∧ some k_ ≠ (.slice Ao75 t432.length co75 : Value).ownBlock ∧ some k_ ≠ (.slice Ao87 t441.length co87 : Value).ownBlock ∧ some k_ ≠ (s_.1 : Value).ownBlock ∧ some k_ ≠ (s_.2.1 : Value).ownBlock) (.slice Ao65 t422.length co65) t446) ∧ (Kd.R k72 72 w' w.heap.size (fun k_ => some k_ ≠ (v406 : Value).ownBlock ∧ some k_ ≠ (.slice Ao55 t414.length co55 : Value).ownBlock ∧ some k_ ≠ (.slice Ao65 t422.length co65 : Value).ownBlock ∧ some k_ ≠ (.slice Ao87 t441.length co87 : Value).ownBlock ∧ some k_ ≠ (s_.1 : Value).ownBlock ∧ some k_ ≠ (s_.2.1 : Value).ownBlock) (.slice Ao75 t432.length co75) t449) ∧ (Kd.R k72 72 w' w.heap.size (fun k_ => some k_ ≠ (v406 : Value).ownBlock ∧ some k_ ≠ (.slice Ao55 t414.length co55 : Value).ownBlock ∧ some k_ ≠ (.slice Ao65 t422.length co65 : Value).ownBlock ∧ some k_ ≠ (.slice Ao75 t432.length co75 : Value).ownBlock ∧ some k_ ≠ (s_.1 : Value).ownBlock ∧ some k_ ≠ (s_.2.1 : Value).ownBlock) (.slice Ao87 t441.length co87) t441) ∧ (Kd.R k72 72 w' w.heap.size (fun k_ => some k_ ≠ (v406 : Value).ownBlock ∧ some k_ ≠ (.slice Ao55 t414.length co55 : Value).ownBlock ∧ some k_ ≠ (.slice Ao65 t422.length co65 : Value).ownBlock ∧ some k_ ≠ (.slice Ao75 t432.length co75 : Value).ownBlock ∧ some k_ ≠ (.slice Ao87 t441.length co87 : Value).ownBlock ∧ some k_ ≠ (s_.2.1 : Value).ownBlock) s_.1 t454) ∧ (Kd.R k72 72 w' w.heap.size (fun k_ => some k_ ≠ (v406 : Value).ownBlock ∧ some k_ ≠ (.slice Ao55 t414.length co55 : Value).ownBlock ∧ some k_ ≠ (.slice Ao65 t422.length co65 : Value).ownBlock ∧ some k_ ≠ (.slice Ao75 t432.length co75 : Value).ownBlock ∧ some k_ ≠ (.slice Ao87 t441.length co87 : Value).ownBlock ∧ some k_ ≠ (s_.1 : Value).ownBlock) s_.2.1 t463) ∧ (w'.heap[gb399]? = some (.cells #[.int .i64 a1_0, .int .i64 a1_1, .int .i64 a1_2, .slice A1_3 l1_3.length c1_3] 26 (0, 0))) ∧ (w'.heap[gb400]? = some (.cells #[.int .i64 a2_0, .int .i64 a2_1, .int .i64 a2_2] 23 (0, 0))) ∧ (w'.heap[gb418]? = some (.cells #[.int .i64 t411, .int .i64 t412, .int .i64 t413, .slice Ao55 t414.length co55] 34 (0, 0))) ∧ (w'.heap[gb425]? = some (.cells #[.int .i64 t419, .int .i64 t420, .int .i64 t421, .slice Ao65 t422.length co65] 34 (0, 0))) ∧ (w'.heap[gb436]? = some (.cells #[.int .i64 t429, .int .i64 t430, .int .i64 t431, .slice Ao75 t432.length co75] 34 (0, 0))) ∧ (w'.heap[s_.2.2]? = some (.cells #[.int .i64 0, .int .i64 0, .int .i64 0, .slice none 0 0] 34 (0, 0))) ∧ (w.heap.size ≤ s_.2.2) ∧ (w.heap.size ≤ s_.2.2) ∧ (gb399 ≠ s_.2.2) ∧ (s_.2.2 ≠ gb399) ∧ (gb400 ≠ s_.2.2) ∧ (s_.2.2 ≠ gb400) ∧ (gb418 ≠ s_.2.2) ∧ (s_.2.2 ≠ gb418) ∧ (gb425 ≠ s_.2.2) ∧ (s_.2.2 ≠ gb425) ∧ (gb436 ≠ s_.2.2) ∧ (s_.2.2 ≠ gb436) ∧ (Below w.heap.size w w')) ?_ ?_
 rotate_left
 ·intro hCont
  refine tw_ HT_ 2 9 (some 86) (some 16) (bv_ 12 15) (bv_ 12 523) (fun K hK => ?_) (fun K hK => ?_)
  ·skip
   refine gs_ Try.func9 #[.agg #[.int .i64 a1_0, .int .i64 a1_1, .int .i64 a1_2, .slice A1_3 l1_3.length c1_3]] ?_
   with_reducible refine (laws_toMeasure.calls k a1_0 a1_1 a1_2 _ _ l1_3 t451 t452 t453 t454 _ ?side1 ?side2 A31.out).mono ?_
   (case side1 => exact ca_ (Kd.C_below HR1_3.out HB.out))
   (case side2 => exact HC1_3.out)
   rintro e w99 ⟨v455, rfl, ho0, hb⟩
   refine ⟨_, rfl, ?_⟩
   have HO456 := Aside0.mk (Kd.R_lower (Kd.R_new' (Kd.R_new' (Kd.R_new' (Kd.R_new' (Kd.R_new' ho0 (Kd.R_lt (ra_ HO407.out))) (Kd.R_lt (ra_ HO416.out))) (Kd.R_lt (ra_ HO424.out))) (Kd.R_lt (ra_ HO434.out))) (Kd.R_lt (ra_ HO443.out))) (below_size (bw_ HB).out))
   replace HO407 := Aside0.mk (Kd.R_elder' (ra_ HO407.out) (Kd.R_base ho0) hb)
   replace HO416 := Aside0.mk (Kd.R_elder' (ra_ HO416.out) (Kd.R_base ho0) hb)
   replace HO424 := Aside0.mk (Kd.R_elder' (ra_ HO424.out) (Kd.R_base ho0) hb)
   replace HO434 := Aside0.mk (Kd.R_elder' (ra_ HO434.out) (Kd.R_base ho0) hb)
   replace HO443 := Aside0.mk (Kd.R_elder' (ra_ HO443.out) (Kd.R_base ho0) hb)
   replace BK399 := bb_ BK399 hb
   replace BK400 := bb_ BK400 hb
   replace BK418 := bb_ BK418 hb
   replace BK425 := bb_ BK425 hb
   replace BK436 := bb_ BK436 hb
   replace HB := bt_ HB hb
   try clear hb
   (try clear ho0)
   refine hK.out _ _ ⟨cz_ BK399 0, cz_ BK399 1, cz_ BK399 2, cz_ BK399 3, cz_ BK400 0, cz_ BK400 1, cz_ BK400 2⟩ (fun hHeld => ?_)
   clear hK K
   refine nm_ (some 86) ?_
   refine tw_ HT_ 4 9 (some 88) (some 16) (bv_ 12 31) (bv_ 12 527) (fun K hK => ?_) (fun K hK => ?_)
   ·skip
    refine gs_ Try.func17 #[.agg #[.int .i64 a2_0, .int .i64 a2_1, .int .i64 a2_2]] ?_
    with_reducible refine (laws_toBall.calls a2_0 a2_1 a2_2 t457 t458 t459 _ A32.out).mono ?_
    rintro e w100 ⟨rfl, hb⟩
    refine ⟨_, rfl, ?_⟩
    replace HO407 := rb_ HO407 hb
    replace HO416 := rb_ HO416 hb
    replace HO424 := rb_ HO424 hb
    replace HO434 := rb_ HO434 hb
    replace HO443 := rb_ HO443 hb
    replace HO456 := rb_ HO456 hb
    replace BK399 := bb_ BK399 hb
    replace BK400 := bb_ BK400 hb
    replace BK418 := bb_ BK418 hb
    replace BK425 := bb_ BK425 hb
    replace BK436 := bb_ BK436 hb
    replace HB := bt_ HB hb
    try clear hb
    obtain ⟨Ao101, co101, eo101⟩ := Kd.R_slice HO456.out
    (first | subst eo101 | (injection eo101 with f1_ f2_ f3_; have f4_ := f1_.symm; have f5_ := f3_.symm; clear f1_ f2_ f3_; subst f4_; subst f5_))
    refine hK.out _ _ ⟨cz_ BK399 0, cz_ BK399 1, cz_ BK399 2, cz_ BK399 3, cz_ BK400 0, cz_ BK400 1, cz_ BK400 2⟩ (fun hHeld => ?_)
    clear hK K
    refine nm_ (some 88) ?_
    refine tw_ HT_ 5 9 (some 89) (some 16) (bv_ 12 63) (bv_ 12 543) (fun K hK => ?_) (fun K hK => ?_)
    ·skip
     refine gs_ Try.func18 #[.int .i64 a0, .agg #[.int .i64 t451, .int .i64 t452, .int .i64 t453, .slice Ao101 t454.length co101], .agg #[.int .i64 t457, .int .i64 t458, .int .i64 t459]] ?_
     with_reducible refine (impl_CoarsenAt.calls k a0 t451 t452 t453 _ _ t454 t457 t458 t459 t460 t461 t462 t463 t466 _ ?side1 ?side2 A33.out).mono ?_
     (case side1 => exact ca_ (Kd.R_reads' HO456.out).2.2)
     (case side2 => exact (Kd.R_reads' HO456.out).2.1)
     rintro e w102 ⟨v464, rfl, ho0, hb⟩
     refine ⟨_, rfl, ?_⟩
     have HO465 := Aside0.mk (Kd.R_lower (Kd.R_new' (Kd.R_new' (Kd.R_new' (Kd.R_new' (Kd.R_new' (Kd.R_new' ho0 (Kd.R_lt (ra_ HO407.out))) (Kd.R_lt (ra_ HO416.out))) (Kd.R_lt (ra_ HO424.out))) (Kd.R_lt (ra_ HO434.out))) (Kd.R_lt (ra_ HO443.out))) (Kd.R_lt (ra_ HO456.out))) (below_size (bw_ HB).out))
     replace HO407 := Aside0.mk (Kd.R_elder' (ra_ HO407.out) (Kd.R_base ho0) hb)
     replace HO416 := Aside0.mk (Kd.R_elder' (ra_ HO416.out) (Kd.R_base ho0) hb)
     replace HO424 := Aside0.mk (Kd.R_elder' (ra_ HO424.out) (Kd.R_base ho0) hb)
     replace HO434 := Aside0.mk (Kd.R_elder' (ra_ HO434.out) (Kd.R_base ho0) hb)
     replace HO443 := Aside0.mk (Kd.R_elder' (ra_ HO443.out) (Kd.R_base ho0) hb)
     replace HO456 := Aside0.mk (Kd.R_elder' (ra_ HO456.out) (Kd.R_base ho0) hb)
     replace BK399 := bb_ BK399 hb
     replace BK400 := bb_ BK400 hb
     replace BK418 := bb_ BK418 hb
     replace BK425 := bb_ BK425 hb
     replace BK436 := bb_ BK436 hb
     replace HB := bt_ HB hb
     try clear hb
     (try clear ho0)
     refine hK.out _ _ ⟨cz_ BK399 0, cz_ BK399 1, cz_ BK399 2, cz_ BK399 3, cz_ BK400 0, cz_ BK400 1, cz_ BK400 2⟩ (fun hHeld => ?_)
     clear hK K
     refine nm_ (some 89) ?_
     refine px_ HT_ 6 83 127 ?_
     refine px_ HT_ 7 90 255 ?_
     refine px_ HT_ 8 91 511 ?_
     refine on_ HT_ 9 (some 16) (bv_ 12 1023) (fun K hK => ?_)
     refine bz_ 16 #[.int .i64 0, .int .i64 0, .int .i64 0, .slice none 0 0] 34 ?_
     intro gb467 hg w103 BK467 hb
     have GW467 := bs_ HB hg
     have NB399_467 := bm_ BK399 hg
     have NB467_399 := bn_ BK399 hg
     have NB400_467 := bm_ BK400 hg
     have NB467_400 := bn_ BK400 hg
     have NB418_467 := bm_ BK418 hg
     have NB467_418 := bn_ BK418 hg
     have NB425_467 := bm_ BK425 hg
     have NB467_425 := bn_ BK425 hg
     have NB436_467 := bm_ BK436 hg
     have NB467_436 := bn_ BK436 hg
     replace HO407 := rb_ HO407 hb
     replace HO416 := rb_ HO416 hb
     replace HO424 := rb_ HO424 hb
     replace HO434 := rb_ HO434 hb
     replace HO443 := rb_ HO443 hb
     replace HO456 := rb_ HO456 hb
     replace HO465 := rb_ HO465 hb
     replace BK399 := bb_ BK399 hb
     replace BK400 := bb_ BK400 hb
     replace BK418 := bb_ BK418 hb
     replace BK425 := bb_ BK425 hb
     replace BK436 := bb_ BK436 hb
     replace HB := bt_ HB hb
     clear hb hg
     refine hK.out _ _ ⟨cz_ BK399 0, cz_ BK399 1, cz_ BK399 2, cz_ BK399 3, cz_ BK400 0, cz_ BK400 1, cz_ BK400 2⟩ (fun hHeld => ?_)
     clear hK K
     refine nm_ (some 16) ?_
     exact norm_ (by simp only [putAll, Act.put, lstS, lstZ, lstC]) (hCont (.slice Ao101 t454.length co101, v464, gb467) _ ⟨hHeld, (by (with_reducible repeat (first | apply Kd.R_alloc | apply Kd.R_drewN | apply Kd.R_drew)); exact Kd.R_mono HO407.out (fun _ hk => ⟨hk.1.1.1, ⟨hk.1.1.2.1, ⟨hk.1.1.2.2.1, ⟨hk.1.1.2.2.2, ⟨hk.1.2, hk.2⟩⟩⟩⟩⟩)), (by (with_reducible repeat (first | apply Kd.R_alloc | apply Kd.R_drewN | apply Kd.R_drew)); exact Kd.R_mono HO416.out (fun _ hk => ⟨hk.1.1.1, ⟨hk.1.1.2.1, ⟨hk.1.1.2.2.1, ⟨hk.1.1.2.2.2, ⟨hk.1.2, hk.2⟩⟩⟩⟩⟩)), (by (with_reducible repeat (first | apply Kd.R_alloc | apply Kd.R_drewN | apply Kd.R_drew)); exact Kd.R_mono HO424.out (fun _ hk => ⟨hk.1.1.1, ⟨hk.1.1.2.1, ⟨hk.1.1.2.2.1, ⟨hk.1.1.2.2.2, ⟨hk.1.2, hk.2⟩⟩⟩⟩⟩)), (by (with_reducible repeat (first | apply Kd.R_alloc | apply Kd.R_drewN | apply Kd.R_drew)); exact Kd.R_mono HO434.out (fun _ hk => ⟨hk.1.1.1, ⟨hk.1.1.2.1, ⟨hk.1.1.2.2.1, ⟨hk.1.1.2.2.2, ⟨hk.1.2, hk.2⟩⟩⟩⟩⟩)), (by (with_reducible repeat (first | apply Kd.R_alloc | apply Kd.R_drewN | apply Kd.R_drew)); exact Kd.R_mono HO443.out (fun _ hk => ⟨hk.1.1.1, ⟨hk.1.1.2.1, ⟨hk.1.1.2.2.1, ⟨hk.1.1.2.2.2, ⟨hk.1.2, hk.2⟩⟩⟩⟩⟩)), (by (with_reducible repeat (first | apply Kd.R_alloc | apply Kd.R_drewN | apply Kd.R_drew)); exact Kd.R_mono HO456.out (fun _ hk => ⟨hk.1.1.1.1.1.2, ⟨hk.1.1.1.1.2, ⟨hk.1.1.1.2, ⟨hk.1.1.2, ⟨hk.1.2, hk.2⟩⟩⟩⟩⟩)), (by (with_reducible repeat (first | apply Kd.R_alloc | apply Kd.R_drewN | apply Kd.R_drew)); exact Kd.R_mono HO465.out (fun _ hk => ⟨hk.1.1.1.1.1.2, ⟨hk.1.1.1.1.2, ⟨hk.1.1.1.2, ⟨hk.1.1.2, ⟨hk.1.2, hk.2⟩⟩⟩⟩⟩)), (bl_ BK399).out, (bl_ BK400).out, (bl_ BK418).out, (bl_ BK425).out, (bl_ BK436).out, (bl_ BK467).out, GW467.out, GW467.out, NB399_467.out, NB467_399.out, NB400_467.out, NB467_400.out, NB418_467.out, NB467_418.out, NB425_467.out, NB467_425.out, NB436_467.out, NB467_436.out, (bw_ HB).out⟩)
    skip
    refine bz_ 16 #[.int .i64 0, .int .i64 0, .int .i64 0, .slice none 0 0] 34 ?_
    intro gb467 hg w101 BK467 hb
    have GW467 := bs_ HB hg
    have NB399_467 := bm_ BK399 hg
    have NB467_399 := bn_ BK399 hg
    have NB400_467 := bm_ BK400 hg
    have NB467_400 := bn_ BK400 hg
    have NB418_467 := bm_ BK418 hg
    have NB467_418 := bn_ BK418 hg
    have NB425_467 := bm_ BK425 hg
    have NB467_425 := bn_ BK425 hg
    have NB436_467 := bm_ BK436 hg
    have NB467_436 := bn_ BK436 hg
    replace HO407 := rb_ HO407 hb
    replace HO416 := rb_ HO416 hb
    replace HO424 := rb_ HO424 hb
    replace HO434 := rb_ HO434 hb
    replace HO443 := rb_ HO443 hb
    replace HO456 := rb_ HO456 hb
    replace BK399 := bb_ BK399 hb
    replace BK400 := bb_ BK400 hb
    replace BK418 := bb_ BK418 hb
    replace BK425 := bb_ BK425 hb
    replace BK436 := bb_ BK436 hb
    replace HB := bt_ HB hb
    clear hb hg
    obtain ⟨Ao102, co102, eo102⟩ := Kd.R_slice HO456.out
    (first | subst eo102 | (injection eo102 with f1_ f2_ f3_; have f4_ := f1_.symm; have f5_ := f3_.symm; clear f1_ f2_ f3_; subst f4_; subst f5_))
    refine hK.out _ _ ⟨cz_ BK399 0, cz_ BK399 1, cz_ BK399 2, cz_ BK399 3, cz_ BK400 0, cz_ BK400 1, cz_ BK400 2⟩ (fun hHeld => ?_)
    clear hK K
    refine nm_ (some 16) ?_
    refine on_ HT_ 5 (some 89) (bv_ 12 575) (fun K hK => ?_)
    refine gs_ Try.func18 #[.int .i64 a0, .agg #[.int .i64 t451, .int .i64 t452, .int .i64 t453, .slice Ao102 t454.length co102], .agg #[.int .i64 t457, .int .i64 t458, .int .i64 t459]] ?_
    with_reducible refine (impl_CoarsenAt.calls k a0 t451 t452 t453 _ _ t454 t457 t458 t459 t460 t461 t462 t463 t466 _ ?side1 ?side2 A33.out).mono ?_
    (case side1 => exact ca_ (Kd.R_reads' HO456.out).2.2)
    (case side2 => exact (Kd.R_reads' HO456.out).2.1)
    rintro e w103 ⟨v464, rfl, ho0, hb⟩
    refine ⟨_, rfl, ?_⟩
    have HO465 := Aside0.mk (Kd.R_lower (Kd.R_new' (Kd.R_new' (Kd.R_new' (Kd.R_new' (Kd.R_new' (Kd.R_new' ho0 (Kd.R_lt (ra_ HO407.out))) (Kd.R_lt (ra_ HO416.out))) (Kd.R_lt (ra_ HO424.out))) (Kd.R_lt (ra_ HO434.out))) (Kd.R_lt (ra_ HO443.out))) (Kd.R_lt (ra_ HO456.out))) (below_size (bw_ HB).out))
    replace HO407 := Aside0.mk (Kd.R_elder' (ra_ HO407.out) (Kd.R_base ho0) hb)
    replace HO416 := Aside0.mk (Kd.R_elder' (ra_ HO416.out) (Kd.R_base ho0) hb)
    replace HO424 := Aside0.mk (Kd.R_elder' (ra_ HO424.out) (Kd.R_base ho0) hb)
    replace HO434 := Aside0.mk (Kd.R_elder' (ra_ HO434.out) (Kd.R_base ho0) hb)
    replace HO443 := Aside0.mk (Kd.R_elder' (ra_ HO443.out) (Kd.R_base ho0) hb)
    replace HO456 := Aside0.mk (Kd.R_elder' (ra_ HO456.out) (Kd.R_base ho0) hb)
    replace BK399 := bb_ BK399 hb
    replace BK400 := bb_ BK400 hb
    replace BK418 := bb_ BK418 hb
    replace BK425 := bb_ BK425 hb
    replace BK436 := bb_ BK436 hb
    replace BK467 := bb_ BK467 hb
    replace HB := bt_ HB hb
    try clear hb
    (try clear ho0)
    refine hK.out _ _ ⟨cz_ BK399 0, cz_ BK399 1, cz_ BK399 2, cz_ BK399 3, cz_ BK400 0, cz_ BK400 1, cz_ BK400 2⟩ (fun hHeld => ?_)
    clear hK K
    refine nm_ (some 89) ?_
    refine px_ HT_ 6 83 639 ?_
    refine px_ HT_ 7 90 767 ?_
    refine px_ HT_ 8 91 1023 ?_
    exact norm_ (by simp only [putAll, Act.put, lstS, lstZ, lstC]) (hCont (.slice Ao102 t454.length co102, v464, gb467) _ ⟨hHeld, (by (with_reducible repeat (first | apply Kd.R_alloc | apply Kd.R_drewN | apply Kd.R_drew)); exact Kd.R_mono HO407.out (fun _ hk => ⟨hk.1.1.1, ⟨hk.1.1.2.1, ⟨hk.1.1.2.2.1, ⟨hk.1.1.2.2.2, ⟨hk.1.2, hk.2⟩⟩⟩⟩⟩)), (by (with_reducible repeat (first | apply Kd.R_alloc | apply Kd.R_drewN | apply Kd.R_drew)); exact Kd.R_mono HO416.out (fun _ hk => ⟨hk.1.1.1, ⟨hk.1.1.2.1, ⟨hk.1.1.2.2.1, ⟨hk.1.1.2.2.2, ⟨hk.1.2, hk.2⟩⟩⟩⟩⟩)), (by (with_reducible repeat (first | apply Kd.R_alloc | apply Kd.R_drewN | apply Kd.R_drew)); exact Kd.R_mono HO424.out (fun _ hk => ⟨hk.1.1.1, ⟨hk.1.1.2.1, ⟨hk.1.1.2.2.1, ⟨hk.1.1.2.2.2, ⟨hk.1.2, hk.2⟩⟩⟩⟩⟩)), (by (with_reducible repeat (first | apply Kd.R_alloc | apply Kd.R_drewN | apply Kd.R_drew)); exact Kd.R_mono HO434.out (fun _ hk => ⟨hk.1.1.1, ⟨hk.1.1.2.1, ⟨hk.1.1.2.2.1, ⟨hk.1.1.2.2.2, ⟨hk.1.2, hk.2⟩⟩⟩⟩⟩)), (by (with_reducible repeat (first | apply Kd.R_alloc | apply Kd.R_drewN | apply Kd.R_drew)); exact Kd.R_mono HO443.out (fun _ hk => ⟨hk.1.1.1, ⟨hk.1.1.2.1, ⟨hk.1.1.2.2.1, ⟨hk.1.1.2.2.2, ⟨hk.1.2, hk.2⟩⟩⟩⟩⟩)), (by (with_reducible repeat (first | apply Kd.R_alloc | apply Kd.R_drewN | apply Kd.R_drew)); exact Kd.R_mono HO456.out (fun _ hk => ⟨hk.1.1.1.1.1.2, ⟨hk.1.1.1.1.2, ⟨hk.1.1.1.2, ⟨hk.1.1.2, ⟨hk.1.2, hk.2⟩⟩⟩⟩⟩)), (by (with_reducible repeat (first | apply Kd.R_alloc | apply Kd.R_drewN | apply Kd.R_drew)); exact Kd.R_mono HO465.out (fun _ hk => ⟨hk.1.1.1.1.1.2, ⟨hk.1.1.1.1.2, ⟨hk.1.1.1.2, ⟨hk.1.1.2, ⟨hk.1.2, hk.2⟩⟩⟩⟩⟩)), (bl_ BK399).out, (bl_ BK400).out, (bl_ BK418).out, (bl_ BK425).out, (bl_ BK436).out, (bl_ BK467).out, GW467.out, GW467.out, NB399_467.out, NB467_399.out, NB400_467.out, NB467_400.out, NB418_467.out, NB467_418.out, NB425_467.out, NB467_425.out, NB436_467.out, NB467_436.out, (bw_ HB).out⟩)
   skip
   refine bz_ 16 #[.int .i64 0, .int .i64 0, .int .i64 0, .slice none 0 0] 34 ?_
   intro gb467 hg w100 BK467 hb
   have GW467 := bs_ HB hg
   have NB399_467 := bm_ BK399 hg
   have NB467_399 := bn_ BK399 hg
   have NB400_467 := bm_ BK400 hg
   have NB467_400 := bn_ BK400 hg
   have NB418_467 := bm_ BK418 hg
   have NB467_418 := bn_ BK418 hg
   have NB425_467 := bm_ BK425 hg
   have NB467_425 := bn_ BK425 hg
   have NB436_467 := bm_ BK436 hg
   have NB467_436 := bn_ BK436 hg
   replace HO407 := rb_ HO407 hb
   replace HO416 := rb_ HO416 hb
   replace HO424 := rb_ HO424 hb
   replace HO434 := rb_ HO434 hb
   replace HO443 := rb_ HO443 hb
   replace HO456 := rb_ HO456 hb
   replace BK399 := bb_ BK399 hb
   replace BK400 := bb_ BK400 hb
   replace BK418 := bb_ BK418 hb
   replace BK425 := bb_ BK425 hb
   replace BK436 := bb_ BK436 hb
   replace HB := bt_ HB hb
   clear hb hg
   refine hK.out _ _ ⟨cz_ BK399 0, cz_ BK399 1, cz_ BK399 2, cz_ BK399 3, cz_ BK400 0, cz_ BK400 1, cz_ BK400 2⟩ (fun hHeld => ?_)
   clear hK K
   refine nm_ (some 16) ?_
   refine on_ HT_ 4 (some 88) (bv_ 12 543) (fun K hK => ?_)
   refine gs_ Try.func17 #[.agg #[.int .i64 a2_0, .int .i64 a2_1, .int .i64 a2_2]] ?_
   with_reducible refine (laws_toBall.calls a2_0 a2_1 a2_2 t457 t458 t459 _ A32.out).mono ?_
   rintro e w101 ⟨rfl, hb⟩
   refine ⟨_, rfl, ?_⟩
   replace HO407 := rb_ HO407 hb
   replace HO416 := rb_ HO416 hb
   replace HO424 := rb_ HO424 hb
   replace HO434 := rb_ HO434 hb
   replace HO443 := rb_ HO443 hb
   replace HO456 := rb_ HO456 hb
   replace BK399 := bb_ BK399 hb
   replace BK400 := bb_ BK400 hb
   replace BK418 := bb_ BK418 hb
   replace BK425 := bb_ BK425 hb
   replace BK436 := bb_ BK436 hb
   replace BK467 := bb_ BK467 hb
   replace HB := bt_ HB hb
   try clear hb
   obtain ⟨Ao102, co102, eo102⟩ := Kd.R_slice HO456.out
   (first | subst eo102 | (injection eo102 with f1_ f2_ f3_; have f4_ := f1_.symm; have f5_ := f3_.symm; clear f1_ f2_ f3_; subst f4_; subst f5_))
   refine hK.out _ _ ⟨cz_ BK399 0, cz_ BK399 1, cz_ BK399 2, cz_ BK399 3, cz_ BK400 0, cz_ BK400 1, cz_ BK400 2⟩ (fun hHeld => ?_)
   clear hK K
   refine nm_ (some 88) ?_
   refine on_ HT_ 5 (some 89) (bv_ 12 575) (fun K hK => ?_)
   refine gs_ Try.func18 #[.int .i64 a0, .agg #[.int .i64 t451, .int .i64 t452, .int .i64 t453, .slice Ao102 t454.length co102], .agg #[.int .i64 t457, .int .i64 t458, .int .i64 t459]] ?_
   with_reducible refine (impl_CoarsenAt.calls k a0 t451 t452 t453 _ _ t454 t457 t458 t459 t460 t461 t462 t463 t466 _ ?side1 ?side2 A33.out).mono ?_
   (case side1 => exact ca_ (Kd.R_reads' HO456.out).2.2)
   (case side2 => exact (Kd.R_reads' HO456.out).2.1)
   rintro e w103 ⟨v464, rfl, ho0, hb⟩
   refine ⟨_, rfl, ?_⟩
   have HO465 := Aside0.mk (Kd.R_lower (Kd.R_new' (Kd.R_new' (Kd.R_new' (Kd.R_new' (Kd.R_new' (Kd.R_new' ho0 (Kd.R_lt (ra_ HO407.out))) (Kd.R_lt (ra_ HO416.out))) (Kd.R_lt (ra_ HO424.out))) (Kd.R_lt (ra_ HO434.out))) (Kd.R_lt (ra_ HO443.out))) (Kd.R_lt (ra_ HO456.out))) (below_size (bw_ HB).out))
   replace HO407 := Aside0.mk (Kd.R_elder' (ra_ HO407.out) (Kd.R_base ho0) hb)
   replace HO416 := Aside0.mk (Kd.R_elder' (ra_ HO416.out) (Kd.R_base ho0) hb)
   replace HO424 := Aside0.mk (Kd.R_elder' (ra_ HO424.out) (Kd.R_base ho0) hb)
   replace HO434 := Aside0.mk (Kd.R_elder' (ra_ HO434.out) (Kd.R_base ho0) hb)
   replace HO443 := Aside0.mk (Kd.R_elder' (ra_ HO443.out) (Kd.R_base ho0) hb)
   replace HO456 := Aside0.mk (Kd.R_elder' (ra_ HO456.out) (Kd.R_base ho0) hb)
   replace BK399 := bb_ BK399 hb
   replace BK400 := bb_ BK400 hb
   replace BK418 := bb_ BK418 hb
   replace BK425 := bb_ BK425 hb
   replace BK436 := bb_ BK436 hb
   replace BK467 := bb_ BK467 hb
   replace HB := bt_ HB hb
   try clear hb
   (try clear ho0)
   refine hK.out _ _ ⟨cz_ BK399 0, cz_ BK399 1, cz_ BK399 2, cz_ BK399 3, cz_ BK400 0, cz_ BK400 1, cz_ BK400 2⟩ (fun hHeld => ?_)
   clear hK K
   refine nm_ (some 89) ?_
   refine px_ HT_ 6 83 639 ?_
   refine px_ HT_ 7 90 767 ?_
   refine px_ HT_ 8 91 1023 ?_
   exact norm_ (by simp only [putAll, Act.put, lstS, lstZ, lstC]) (hCont (.slice Ao102 t454.length co102, v464, gb467) _ ⟨hHeld, (by (with_reducible repeat (first | apply Kd.R_alloc | apply Kd.R_drewN | apply Kd.R_drew)); exact Kd.R_mono HO407.out (fun _ hk => ⟨hk.1.1.1, ⟨hk.1.1.2.1, ⟨hk.1.1.2.2.1, ⟨hk.1.1.2.2.2, ⟨hk.1.2, hk.2⟩⟩⟩⟩⟩)), (by (with_reducible repeat (first | apply Kd.R_alloc | apply Kd.R_drewN | apply Kd.R_drew)); exact Kd.R_mono HO416.out (fun _ hk => ⟨hk.1.1.1, ⟨hk.1.1.2.1, ⟨hk.1.1.2.2.1, ⟨hk.1.1.2.2.2, ⟨hk.1.2, hk.2⟩⟩⟩⟩⟩)), (by (with_reducible repeat (first | apply Kd.R_alloc | apply Kd.R_drewN | apply Kd.R_drew)); exact Kd.R_mono HO424.out (fun _ hk => ⟨hk.1.1.1, ⟨hk.1.1.2.1, ⟨hk.1.1.2.2.1, ⟨hk.1.1.2.2.2, ⟨hk.1.2, hk.2⟩⟩⟩⟩⟩)), (by (with_reducible repeat (first | apply Kd.R_alloc | apply Kd.R_drewN | apply Kd.R_drew)); exact Kd.R_mono HO434.out (fun _ hk => ⟨hk.1.1.1, ⟨hk.1.1.2.1, ⟨hk.1.1.2.2.1, ⟨hk.1.1.2.2.2, ⟨hk.1.2, hk.2⟩⟩⟩⟩⟩)), (by (with_reducible repeat (first | apply Kd.R_alloc | apply Kd.R_drewN | apply Kd.R_drew)); exact Kd.R_mono HO443.out (fun _ hk => ⟨hk.1.1.1, ⟨hk.1.1.2.1, ⟨hk.1.1.2.2.1, ⟨hk.1.1.2.2.2, ⟨hk.1.2, hk.2⟩⟩⟩⟩⟩)), (by (with_reducible repeat (first | apply Kd.R_alloc | apply Kd.R_drewN | apply Kd.R_drew)); exact Kd.R_mono HO456.out (fun _ hk => ⟨hk.1.1.1.1.1.2, ⟨hk.1.1.1.1.2, ⟨hk.1.1.1.2, ⟨hk.1.1.2, ⟨hk.1.2, hk.2⟩⟩⟩⟩⟩)), (by (with_reducible repeat (first | apply Kd.R_alloc | apply Kd.R_drewN | apply Kd.R_drew)); exact Kd.R_mono HO465.out (fun _ hk => ⟨hk.1.1.1.1.1.2, ⟨hk.1.1.1.1.2, ⟨hk.1.1.1.2, ⟨hk.1.1.2, ⟨hk.1.2, hk.2⟩⟩⟩⟩⟩)), (bl_ BK399).out, (bl_ BK400).out, (bl_ BK418).out, (bl_ BK425).out, (bl_ BK436).out, (bl_ BK467).out, GW467.out, GW467.out, NB399_467.out, NB467_399.out, NB400_467.out, NB467_400.out, NB418_467.out, NB467_418.out, NB425_467.out, NB467_425.out, NB436_467.out, NB467_436.out, (bw_ HB).out⟩)
  skip
  refine bz_ 16 #[.int .i64 0, .int .i64 0, .int .i64 0, .slice none 0 0] 34 ?_
  intro gb467 hg w99 BK467 hb
  have GW467 := bs_ HB hg
  have NB399_467 := bm_ BK399 hg
  have NB467_399 := bn_ BK399 hg
  have NB400_467 := bm_ BK400 hg
  have NB467_400 := bn_ BK400 hg
  have NB418_467 := bm_ BK418 hg
  have NB467_418 := bn_ BK418 hg
  have NB425_467 := bm_ BK425 hg
  have NB467_425 := bn_ BK425 hg
  have NB436_467 := bm_ BK436 hg
  have NB467_436 := bn_ BK436 hg
  replace HO407 := rb_ HO407 hb
  replace HO416 := rb_ HO416 hb
  replace HO424 := rb_ HO424 hb
  replace HO434 := rb_ HO434 hb
  replace HO443 := rb_ HO443 hb
  replace BK399 := bb_ BK399 hb
  replace BK400 := bb_ BK400 hb
  replace BK418 := bb_ BK418 hb
  replace BK425 := bb_ BK425 hb
  replace BK436 := bb_ BK436 hb
  replace HB := bt_ HB hb
  clear hb hg
  refine hK.out _ _ ⟨cz_ BK399 0, cz_ BK399 1, cz_ BK399 2, cz_ BK399 3, cz_ BK400 0, cz_ BK400 1, cz_ BK400 2⟩ (fun hHeld => ?_)
  clear hK K
  refine nm_ (some 16) ?_
  refine on_ HT_ 2 (some 86) (bv_ 12 527) (fun K hK => ?_)
  refine gs_ Try.func9 #[.agg #[.int .i64 a1_0, .int .i64 a1_1, .int .i64 a1_2, .slice A1_3 l1_3.length c1_3]] ?_
  with_reducible refine (laws_toMeasure.calls k a1_0 a1_1 a1_2 _ _ l1_3 t451 t452 t453 t454 _ ?side1 ?side2 A31.out).mono ?_
  (case side1 => exact ca_ (Kd.C_below HR1_3.out HB.out))
  (case side2 => exact HC1_3.out)
  rintro e w100 ⟨v455, rfl, ho0, hb⟩
  refine ⟨_, rfl, ?_⟩
  have HO456 := Aside0.mk (Kd.R_lower (Kd.R_new' (Kd.R_new' (Kd.R_new' (Kd.R_new' (Kd.R_new' ho0 (Kd.R_lt (ra_ HO407.out))) (Kd.R_lt (ra_ HO416.out))) (Kd.R_lt (ra_ HO424.out))) (Kd.R_lt (ra_ HO434.out))) (Kd.R_lt (ra_ HO443.out))) (below_size (bw_ HB).out))
  replace HO407 := Aside0.mk (Kd.R_elder' (ra_ HO407.out) (Kd.R_base ho0) hb)
  replace HO416 := Aside0.mk (Kd.R_elder' (ra_ HO416.out) (Kd.R_base ho0) hb)
  replace HO424 := Aside0.mk (Kd.R_elder' (ra_ HO424.out) (Kd.R_base ho0) hb)
  replace HO434 := Aside0.mk (Kd.R_elder' (ra_ HO434.out) (Kd.R_base ho0) hb)
  replace HO443 := Aside0.mk (Kd.R_elder' (ra_ HO443.out) (Kd.R_base ho0) hb)
  replace BK399 := bb_ BK399 hb
  replace BK400 := bb_ BK400 hb
  replace BK418 := bb_ BK418 hb
  replace BK425 := bb_ BK425 hb
  replace BK436 := bb_ BK436 hb
  replace BK467 := bb_ BK467 hb
  replace HB := bt_ HB hb
  try clear hb
  (try clear ho0)
  refine hK.out _ _ ⟨cz_ BK399 0, cz_ BK399 1, cz_ BK399 2, cz_ BK399 3, cz_ BK400 0, cz_ BK400 1, cz_ BK400 2⟩ (fun hHeld => ?_)
  clear hK K
  refine nm_ (some 86) ?_
  refine on_ HT_ 4 (some 88) (bv_ 12 543) (fun K hK => ?_)
  refine gs_ Try.func17 #[.agg #[.int .i64 a2_0, .int .i64 a2_1, .int .i64 a2_2]] ?_
  with_reducible refine (laws_toBall.calls a2_0 a2_1 a2_2 t457 t458 t459 _ A32.out).mono ?_
  rintro e w101 ⟨rfl, hb⟩
  refine ⟨_, rfl, ?_⟩
  replace HO407 := rb_ HO407 hb
  replace HO416 := rb_ HO416 hb
  replace HO424 := rb_ HO424 hb
  replace HO434 := rb_ HO434 hb
  replace HO443 := rb_ HO443 hb
  replace HO456 := rb_ HO456 hb
  replace BK399 := bb_ BK399 hb
  replace BK400 := bb_ BK400 hb
  replace BK418 := bb_ BK418 hb
  replace BK425 := bb_ BK425 hb
  replace BK436 := bb_ BK436 hb
  replace BK467 := bb_ BK467 hb
  replace HB := bt_ HB hb
  try clear hb
  obtain ⟨Ao102, co102, eo102⟩ := Kd.R_slice HO456.out
  (first | subst eo102 | (injection eo102 with f1_ f2_ f3_; have f4_ := f1_.symm; have f5_ := f3_.symm; clear f1_ f2_ f3_; subst f4_; subst f5_))
  refine hK.out _ _ ⟨cz_ BK399 0, cz_ BK399 1, cz_ BK399 2, cz_ BK399 3, cz_ BK400 0, cz_ BK400 1, cz_ BK400 2⟩ (fun hHeld => ?_)
  clear hK K
  refine nm_ (some 88) ?_
  refine on_ HT_ 5 (some 89) (bv_ 12 575) (fun K hK => ?_)
  refine gs_ Try.func18 #[.int .i64 a0, .agg #[.int .i64 t451, .int .i64 t452, .int .i64 t453, .slice Ao102 t454.length co102], .agg #[.int .i64 t457, .int .i64 t458, .int .i64 t459]] ?_
  with_reducible refine (impl_CoarsenAt.calls k a0 t451 t452 t453 _ _ t454 t457 t458 t459 t460 t461 t462 t463 t466 _ ?side1 ?side2 A33.out).mono ?_
  (case side1 => exact ca_ (Kd.R_reads' HO456.out).2.2)
  (case side2 => exact (Kd.R_reads' HO456.out).2.1)
  rintro e w103 ⟨v464, rfl, ho0, hb⟩
  refine ⟨_, rfl, ?_⟩
  have HO465 := Aside0.mk (Kd.R_lower (Kd.R_new' (Kd.R_new' (Kd.R_new' (Kd.R_new' (Kd.R_new' (Kd.R_new' ho0 (Kd.R_lt (ra_ HO407.out))) (Kd.R_lt (ra_ HO416.out))) (Kd.R_lt (ra_ HO424.out))) (Kd.R_lt (ra_ HO434.out))) (Kd.R_lt (ra_ HO443.out))) (Kd.R_lt (ra_ HO456.out))) (below_size (bw_ HB).out))
  replace HO407 := Aside0.mk (Kd.R_elder' (ra_ HO407.out) (Kd.R_base ho0) hb)
  replace HO416 := Aside0.mk (Kd.R_elder' (ra_ HO416.out) (Kd.R_base ho0) hb)
  replace HO424 := Aside0.mk (Kd.R_elder' (ra_ HO424.out) (Kd.R_base ho0) hb)
  replace HO434 := Aside0.mk (Kd.R_elder' (ra_ HO434.out) (Kd.R_base ho0) hb)
  replace HO443 := Aside0.mk (Kd.R_elder' (ra_ HO443.out) (Kd.R_base ho0) hb)
  replace HO456 := Aside0.mk (Kd.R_elder' (ra_ HO456.out) (Kd.R_base ho0) hb)
  replace BK399 := bb_ BK399 hb
  replace BK400 := bb_ BK400 hb
  replace BK418 := bb_ BK418 hb
  replace BK425 := bb_ BK425 hb
  replace BK436 := bb_ BK436 hb
  replace BK467 := bb_ BK467 hb
  replace HB := bt_ HB hb
  try clear hb
  (try clear ho0)
  refine hK.out _ _ ⟨cz_ BK399 0, cz_ BK399 1, cz_ BK399 2, cz_ BK399 3, cz_ BK400 0, cz_ BK400 1, cz_ BK400 2⟩ (fun hHeld => ?_)
  clear hK K
  refine nm_ (some 89) ?_
  refine px_ HT_ 6 83 639 ?_
  refine px_ HT_ 7 90 767 ?_
  refine px_ HT_ 8 91 1023 ?_
  exact norm_ (by simp only [putAll, Act.put, lstS, lstZ, lstC]) (hCont (.slice Ao102 t454.length co102, v464, gb467) _ ⟨hHeld, (by (with_reducible repeat (first | apply Kd.R_alloc | apply Kd.R_drewN | apply Kd.R_drew)); exact Kd.R_mono HO407.out (fun _ hk => ⟨hk.1.1.1, ⟨hk.1.1.2.1, ⟨hk.1.1.2.2.1, ⟨hk.1.1.2.2.2, ⟨hk.1.2, hk.2⟩⟩⟩⟩⟩)), (by (with_reducible repeat (first | apply Kd.R_alloc | apply Kd.R_drewN | apply Kd.R_drew)); exact Kd.R_mono HO416.out (fun _ hk => ⟨hk.1.1.1, ⟨hk.1.1.2.1, ⟨hk.1.1.2.2.1, ⟨hk.1.1.2.2.2, ⟨hk.1.2, hk.2⟩⟩⟩⟩⟩)), (by (with_reducible repeat (first | apply Kd.R_alloc | apply Kd.R_drewN | apply Kd.R_drew)); exact Kd.R_mono HO424.out (fun _ hk => ⟨hk.1.1.1, ⟨hk.1.1.2.1, ⟨hk.1.1.2.2.1, ⟨hk.1.1.2.2.2, ⟨hk.1.2, hk.2⟩⟩⟩⟩⟩)), (by (with_reducible repeat (first | apply Kd.R_alloc | apply Kd.R_drewN | apply Kd.R_drew)); exact Kd.R_mono HO434.out (fun _ hk => ⟨hk.1.1.1, ⟨hk.1.1.2.1, ⟨hk.1.1.2.2.1, ⟨hk.1.1.2.2.2, ⟨hk.1.2, hk.2⟩⟩⟩⟩⟩)), (by (with_reducible repeat (first | apply Kd.R_alloc | apply Kd.R_drewN | apply Kd.R_drew)); exact Kd.R_mono HO443.out (fun _ hk => ⟨hk.1.1.1, ⟨hk.1.1.2.1, ⟨hk.1.1.2.2.1, ⟨hk.1.1.2.2.2, ⟨hk.1.2, hk.2⟩⟩⟩⟩⟩)), (by (with_reducible repeat (first | apply Kd.R_alloc | apply Kd.R_drewN | apply Kd.R_drew)); exact Kd.R_mono HO456.out (fun _ hk => ⟨hk.1.1.1.1.1.2, ⟨hk.1.1.1.1.2, ⟨hk.1.1.1.2, ⟨hk.1.1.2, ⟨hk.1.2, hk.2⟩⟩⟩⟩⟩)), (by (with_reducible repeat (first | apply Kd.R_alloc | apply Kd.R_drewN | apply Kd.R_drew)); exact Kd.R_mono HO465.out (fun _ hk => ⟨hk.1.1.1.1.1.2, ⟨hk.1.1.1.1.2, ⟨hk.1.1.1.2, ⟨hk.1.1.2, ⟨hk.1.2, hk.2⟩⟩⟩⟩⟩)), (bl_ BK399).out, (bl_ BK400).out, (bl_ BK418).out, (bl_ BK425).out, (bl_ BK436).out, (bl_ BK467).out, GW467.out, GW467.out, NB399_467.out, NB467_399.out, NB400_467.out, NB467_400.out, NB418_467.out, NB467_418.out, NB425_467.out, NB467_425.out, NB436_467.out, NB467_436.out, (bw_ HB).out⟩)
 rintro ⟨v455, v464, gb467⟩ w104 ⟨hS_, h0_, h1_, h2_, h3_, h4_, h5_, h6_, h7_, h8_, h9_, h10_, h11_, h12_, h13_, h14_, h15_, h16_, h17_, h18_, h19_, h20_, h21_, h22_, h23_, h24_, h25_⟩
 clear HO407 HO416 HO424 HO434 HO443 BK399 BK400 BK418 BK425 BK436 HB
 have HO407 := Aside0.mk h0_
 have HO416 := Aside0.mk h1_
 have HO424 := Aside0.mk h2_
 have HO434 := Aside0.mk h3_
 have HO443 := Aside0.mk h4_
 have HO456 := Aside0.mk h5_
 have HO465 := Aside0.mk h6_
 have BK399 := Aside0.mk h7_
 have BK400 := Aside0.mk h8_
 have BK418 := Aside0.mk h9_
 have BK425 := Aside0.mk h10_
 have BK436 := Aside0.mk h11_
 have BK467 := Aside0.mk h12_
 have GW467 := Aside0.mk h13_
 have GW467 := Aside0.mk h14_
 have NB399_467 := Aside0.mk h15_
 have NB467_399 := Aside0.mk h16_
 have NB400_467 := Aside0.mk h17_
 have NB467_400 := Aside0.mk h18_
 have NB418_467 := Aside0.mk h19_
 have NB467_418 := Aside0.mk h20_
 have NB425_467 := Aside0.mk h21_
 have NB467_425 := Aside0.mk h22_
 have NB436_467 := Aside0.mk h23_
 have NB467_436 := Aside0.mk h24_
 have HB := Aside0.mk h25_
 clear h0_ h1_ h2_ h3_ h4_ h5_ h6_ h7_ h8_ h9_ h10_ h11_ h12_ h13_ h14_ h15_ h16_ h17_ h18_ h19_ h20_ h21_ h22_ h23_ h24_ h25_
 have hHeld : w104.cell? ⟨gb399, 0, none⟩ = some (.int .i64 a1_0) ∧ w104.cell? ⟨gb399, 1, none⟩ = some (.int .i64 a1_1) ∧ w104.cell? ⟨gb399, 2, none⟩ = some (.int .i64 a1_2) ∧ w104.cell? ⟨gb399, 3, none⟩ = some (.slice A1_3 l1_3.length c1_3) ∧ w104.cell? ⟨gb400, 0, none⟩ = some (.int .i64 a2_0) ∧ w104.cell? ⟨gb400, 1, none⟩ = some (.int .i64 a2_1) ∧ w104.cell? ⟨gb400, 2, none⟩ = some (.int .i64 a2_2) := hS_
 obtain ⟨Ao108, co108, eo108⟩ := Kd.R_slice HO465.out
 (first | subst eo108 | (injection eo108 with f1_ f2_ f3_; have f4_ := f1_.symm; have f5_ := f3_.symm; clear f1_ f2_ f3_; subst f4_; subst f5_))
 refine norm_ (a' := ?_) ?_ ?_
 rotate_left
 ·simp only [putAll, Act.put, lstS, lstZ, lstC]
  rfl
 refine on_ HT_ 10 none (bv_ 12 2047) (fun K hK => ?_)
 have hs105 : w104.cell? ⟨gb467, 0, none⟩ = some (.int .i64 0) := (blk_cell BK467.out 0).trans rfl
 have hfs105 := blk_frozen BK467.out 0
 have hns105_0 := NB399_467.out
 have hns105_1 := NB400_467.out
 have hns105_2 := NB418_467.out
 have hns105_3 := NB425_467.out
 have hns105_4 := NB436_467.out
 have hms105_0 := NB467_399.out
 have hms105_1 := NB467_400.out
 have hms105_2 := NB467_418.out
 have hms105_3 := NB467_425.out
 have hms105_4 := NB467_436.out
 have hs106 : w104.cell? ⟨gb467, 1, none⟩ = some (.int .i64 0) := (blk_cell BK467.out 1).trans rfl
 have hfs106 := blk_frozen BK467.out 1
 have hns106_0 := NB399_467.out
 have hns106_1 := NB400_467.out
 have hns106_2 := NB418_467.out
 have hns106_3 := NB425_467.out
 have hns106_4 := NB436_467.out
 have hms106_0 := NB467_399.out
 have hms106_1 := NB467_400.out
 have hms106_2 := NB467_418.out
 have hms106_3 := NB467_425.out
 have hms106_4 := NB467_436.out
 have hs107 : w104.cell? ⟨gb467, 2, none⟩ = some (.int .i64 0) := (blk_cell BK467.out 2).trans rfl
 have hfs107 := blk_frozen BK467.out 2
 have hns107_0 := NB399_467.out
 have hns107_1 := NB400_467.out
 have hns107_2 := NB418_467.out
 have hns107_3 := NB425_467.out
 have hns107_4 := NB436_467.out
 have hms107_0 := NB467_399.out
 have hms107_1 := NB467_400.out
 have hms107_2 := NB467_418.out
 have hms107_3 := NB467_425.out
 have hms107_4 := NB467_436.out
 have hs109 : w104.cell? ⟨gb467, 3, none⟩ = some (.slice none 0 0) := (blk_cell BK467.out 3).trans rfl
 have hfs109 := blk_frozen BK467.out 3
 have hns109_0 := NB399_467.out
 have hns109_1 := NB400_467.out
 have hns109_2 := NB418_467.out
 have hns109_3 := NB425_467.out
 have hns109_4 := NB436_467.out
 have hms109_0 := NB467_399.out
 have hms109_1 := NB467_400.out
 have hms109_2 := NB467_418.out
 have hms109_3 := NB467_425.out
 have hms109_4 := NB467_436.out
 refine skip_ (w1 := ?_) (by rfl) rfl ?_ ?_
 rotate_left
 ·go_simp
  rfl
 refine hK.out _ _ ⟨(cg_ NB399_467 ((cg_ NB399_467 ((cg_ NB399_467 ((cg_ NB399_467 (hHeld.1)))))))), (cg_ NB399_467 ((cg_ NB399_467 ((cg_ NB399_467 ((cg_ NB399_467 (hHeld.2.1)))))))), (cg_ NB399_467 ((cg_ NB399_467 ((cg_ NB399_467 ((cg_ NB399_467 (hHeld.2.2.1)))))))), (cg_ NB399_467 ((cg_ NB399_467 ((cg_ NB399_467 ((cg_ NB399_467 (hHeld.2.2.2.1)))))))), (cg_ NB400_467 ((cg_ NB400_467 ((cg_ NB400_467 ((cg_ NB400_467 (hHeld.2.2.2.2.1)))))))), (cg_ NB400_467 ((cg_ NB400_467 ((cg_ NB400_467 ((cg_ NB400_467 (hHeld.2.2.2.2.2.1)))))))), (cg_ NB400_467 ((cg_ NB400_467 ((cg_ NB400_467 ((cg_ NB400_467 (hHeld.2.2.2.2.2.2))))))))⟩ (fun hHeld => ?_)
 clear hK K
 refine px_ HT_ 11 17 4095 ?_
 refine done_ (done_of HT_.out (by kernel_rfl)) ?_
 have hnb110 := NB467_399.out
 have hnc110 := NB399_467.out
 have hnb111 := NB467_400.out
 have hnc111 := NB400_467.out
 have hnb112 := NB467_418.out
 have hnc112 := NB418_467.out
 have hnb113 := NB467_425.out
 have hnc113 := NB425_467.out
 have hnb114 := NB467_436.out
 have hnc114 := NB436_467.out
 obtain ⟨hcz115_0, hcz115_1, hcz115_2, hcz115_3, hfz115_0, hfz115_1, hfz115_2, hfz115_3⟩ := ch4_ BK467
 obtain ⟨hcz116_0, hcz116_1, hcz116_2, hcz116_3, hfz116_0, hfz116_1, hfz116_2, hfz116_3⟩ := ch4_ BK418
 try go_wp2_with (first | ((refine gc_ 12 ?_); refine ge_ 94 Try.func12 #[.agg #[.int .i64 t460, .int .i64 t461, .int .i64 t462, .slice Ao108 t463.length co108], .agg #[.int .i64 t411, .int .i64 t412, .int .i64 t413, .slice Ao55 t414.length co55]] ?_; (with_reducible refine (laws_eqMeasure.calls k t460 t461 t462 _ _ t463 t411 t412 t413 _ _ t414 true _ ?side1 ?side2 ?side3 ?side4 A34.out).mono ?_); (case side1 => refine (Kd.R_reads' (e := 72) (base := w.heap.size) (ok := fun k_ => (some k_ ≠ (v406 : Value).ownBlock ∧ (some k_ ≠ (.slice Ao55 t414.length co55 : Value).ownBlock ∧ (some k_ ≠ (.slice Ao65 t422.length co65 : Value).ownBlock ∧ (some k_ ≠ (.slice Ao75 t432.length co75 : Value).ownBlock ∧ (some k_ ≠ (.slice Ao87 t441.length co87 : Value).ownBlock ∧ some k_ ≠ (v455 : Value).ownBlock)))))) (n := t463.length) (c := co108) ?_).2.2; exact (ra_ (rs4_ HO465.out BK467.out))); (case side2 => exact (Kd.R_reads' HO465.out).2.1); (case side3 => refine (Kd.R_reads' (e := 72) (base := w.heap.size) (ok := fun k_ => (some k_ ≠ (v406 : Value).ownBlock ∧ (some k_ ≠ (.slice Ao65 t422.length co65 : Value).ownBlock ∧ (some k_ ≠ (.slice Ao75 t432.length co75 : Value).ownBlock ∧ (some k_ ≠ (.slice Ao87 t441.length co87 : Value).ownBlock ∧ (some k_ ≠ (v455 : Value).ownBlock ∧ some k_ ≠ (.slice Ao108 t463.length co108 : Value).ownBlock)))))) (n := t414.length) (c := co55) ?_).2.2; exact (ra_ (rs4_ HO416.out BK467.out))); (case side4 => exact (Kd.R_reads' HO416.out).2.1); rintro e w117 ⟨rfl, hb⟩; refine ⟨_, rfl, ?_⟩; replace HO407 := Aside0.mk (Kd.R_below (ra_ (rs4_ HO407.out BK467.out)) hb); replace HO416 := Aside0.mk (Kd.R_below (ra_ (rs4_ HO416.out BK467.out)) hb); replace HO424 := Aside0.mk (Kd.R_below (ra_ (rs4_ HO424.out BK467.out)) hb); replace HO434 := Aside0.mk (Kd.R_below (ra_ (rs4_ HO434.out BK467.out)) hb); replace HO443 := Aside0.mk (Kd.R_below (ra_ (rs4_ HO443.out BK467.out)) hb); replace HO456 := Aside0.mk (Kd.R_below (ra_ (rs4_ HO456.out BK467.out)) hb); replace HO465 := Aside0.mk (Kd.R_below (ra_ (rs4_ HO465.out BK467.out)) hb); replace BK399 := fb_ BK399 NB399_467 hb; replace BK400 := fb_ BK400 NB400_467 hb; replace BK418 := fb_ BK418 NB418_467 hb; replace BK425 := fb_ BK425 NB425_467 hb; replace BK436 := fb_ BK436 NB436_467 hb; replace BK467 := Aside0.mk (blk_below (g := gb467) (o := .cells #[.int .i64 t460, .int .i64 t461, .int .i64 t462, .slice Ao108 t463.length co108] 34 (0, 0)) (bp_ BK467).out hb); replace HB := bt_ HB hb; (try clear hb); obtain ⟨hcz118_0, hcz118_1, hcz118_2, hcz118_3, hfz118_0, hfz118_1, hfz118_2, hfz118_3⟩ := ch4_ BK436) | ((refine gc_ 19 ?_); refine goesL_ (some 103) rfl rfl Try.func19 (by kernel_rfl) rfl #[.agg #[.int .i64 t429, .int .i64 t430, .int .i64 t431, .slice Ao75 t449.length co75], .int .i64 1] rfl (by (try simp only [List.map_toArray, List.map_cons, List.map_nil]); first | done | (rw [show t449.length = t432.length from (Kd.R_reads' HO434.out).1.symm] <;> rfl) | rfl | (simp only [List.length_drop, List.length_take]; rfl)) ?_; (with_reducible refine (laws_heldMeasure.calls k t429 t430 t431 _ _ t449 1 t469 _ ?side1 ?side2 A37.out).mono ?_); (case side1 => exact ca_ (Kd.R_reads' HO434.out).2.2); (case side2 => rw [show t449.length = t432.length from (Kd.R_reads' HO434.out).1.symm]; exact (Kd.R_reads' HO434.out).2.1); rintro e w119 ⟨rfl, hb⟩; refine ⟨_, rfl, ?_⟩; replace HO407 := rb_ HO407 hb; replace HO416 := rb_ HO416 hb; replace HO424 := rb_ HO424 hb; replace HO434 := rb_ HO434 hb; replace HO443 := rb_ HO443 hb; replace HO456 := rb_ HO456 hb; replace HO465 := rb_ HO465 hb; replace BK399 := bb_ BK399 hb; replace BK400 := bb_ BK400 hb; replace BK418 := bb_ BK418 hb; replace BK425 := bb_ BK425 hb; replace BK436 := bb_ BK436 hb; replace BK467 := bb_ BK467 hb; replace HB := bt_ HB hb; (try clear hb)))
 go_ret
 exact ⟨es_, (bw_ HB).out⟩
def laws_FnExactCoarsenAt.Pure : Prop := ∀ (a0 a1_0 a1_1 a1_2 : Int) (l1_3 : List (S103)) (a2_0 a2_1 a2_2 : Int), (Lit.int .i64 a0).wf = true → (Lit.int .i64 a1_0).wf = true → (Lit.int .i64 a1_1).wf = true → (Lit.int .i64 a1_2).wf = true → l1_3.length ≤ maxLen → (∀ z ∈ l1_3, wfS103 z) → (Lit.int .i64 a2_0).wf = true → (Lit.int .i64 a2_1).wf = true → (Lit.int .i64 a2_2).wf = true → ∃ k, laws_FnExactCoarsenAt.f k a0 a1_0 a1_1 a1_2 l1_3 a2_0 a2_1 a2_2 = some true
end Go.Proofs.Ytdfcoebadjhjlaa.QG
