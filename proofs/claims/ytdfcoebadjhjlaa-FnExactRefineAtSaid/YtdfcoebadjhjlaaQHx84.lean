import Derived.Test.YtdfcoebadjhjlaaQHx7
import Derived.Test.YtdfcoebadjhjlaaQHx12
import Derived.Test.YtdfcoebadjhjlaaQHx16
import Derived.Test.YtdfcoebadjhjlaaQHx36
import Derived.Test.YtdfcoebadjhjlaaQHx44
import Derived.Test.YtdfcoebadjhjlaaQHx81
import Derived.Test.YtdfcoebadjhjlaaQHx83
namespace Go.Proofs.Ytdfcoebadjhjlaa.QH
open Go.RowKit Go.Proofs.YtdfcoebadjhjlaaW.PrintWords Go.Proofs.YtdfcoebadjhjlaaW.PrintLast Go.Proofs.YtdfcoebadjhjlaaW.PrintMore
attribute [local go_sem] isSome_setCell max2_int min2_int max_two min_two max_three min_three max_four min_four
set_option linter.unusedVariables false
set_option linter.unusedSimpArgs false

/-! ### laws_FnExactRefineAt: function 5 -/
def laws_FnExactRefineAt.f (k : Nat) (a0 a1_0 a1_1 a1_2 : Int) (l1_3 : List (S103)) (a2_0 a2_1 a2_2 : Int) (l3 : List Int) : Option (Bool) := if (l3.length : Int) > 1048576 then (some true) else ((laws_szMeasure.f a1_0 a1_1 a1_2 l1_3 1048576).bind fun t483 => (if t483 < 0 then (some true) else ((laws_toMeasure.f k a1_0 a1_1 a1_2 l1_3).bind fun bt484 => ((laws_toBall.f a2_0 a2_1 a2_2).bind fun bt490 => ((laws_toInt64S.f k l3).bind fun t493 => ((spec_RefineAt.f k a0 bt484.1 bt484.2.1 bt484.2.2.1 bt484.2.2.2 bt490.1 bt490.2.1 bt490.2.2 t493).bind fun bt496 => ((laws_toMeasure.f k a1_0 a1_1 a1_2 l1_3).bind fun bt504 => ((laws_toInt64S.f k l3).bind fun t511 => ((laws_toBall.f a2_0 a2_1 a2_2).bind fun bt514 => ((impl_RefineAt.f k a0 bt504.1 bt504.2.1 bt504.2.2.1 bt504.2.2.2 bt514.1 bt514.2.1 bt514.2.2 t511).bind fun bt517 => ((laws_eqMeasure.f k bt517.1 bt517.2.1 bt517.2.2.1 bt517.2.2.2.1 bt496.1 bt496.2.1 bt496.2.2.1 bt496.2.2.2.1).bind fun t525 => (if t525 = true then (if bt517.2.2.2.2 = bt496.2.2.2.2 then ((laws_toMeasure.f k a1_0 a1_1 a1_2 l1_3).bind fun bt526 => ((laws_eqMeasure.f k bt504.1 bt504.2.1 bt504.2.2.1 bt504.2.2.2 bt526.1 bt526.2.1 bt526.2.2.1 bt526.2.2.2).bind fun t532 => (if t532 = true then ((laws_toInt64S.f k l3).bind fun t533 => ((laws_eqInt64S.f k t511 t533).bind fun t536 => (if t536 = true then ((laws_markMeasure.f k bt504.1 bt504.2.1 bt504.2.2.1 bt504.2.2.2 1).bind fun bt537 => ((laws_markInt64S.f k t511 bt537.1).bind fun bt539 => (if bt539.1 < 0 then (none) else ((laws_eqMeasure.f k bt517.1 bt517.2.1 bt517.2.2.1 bt517.2.2.2.1 bt496.1 bt496.2.1 bt496.2.2.1 bt496.2.2.2.1).bind fun t541 => (if t541 = true then ((laws_markMeasure.f k bt517.1 bt517.2.1 bt517.2.2.1 bt517.2.2.2.1 1).bind fun bt542 => ((laws_heldMeasure.f k bt517.1 bt517.2.1 bt517.2.2.1 bt542.2 1).bind fun t544 => (if t544 < 0 then (none) else (if t544 = bt542.1 then ((laws_toMeasure.f k a1_0 a1_1 a1_2 l1_3).bind fun bt545 => ((laws_toBall.f a2_0 a2_1 a2_2).bind fun bt551 => ((laws_toInt64S.f k l3).bind fun t554 => ((impl_RefineAt.f k a0 bt545.1 bt545.2.1 bt545.2.2.1 bt545.2.2.2 bt551.1 bt551.2.1 bt551.2.2 t554).bind fun bt557 => ((laws_eqMeasure.f k bt557.1 bt557.2.1 bt557.2.2.1 bt557.2.2.2.1 bt496.1 bt496.2.1 bt496.2.2.1 bt496.2.2.2.1).bind fun t565 => (if t565 = true then (if bt557.2.2.2.2 = bt496.2.2.2.2 then ((laws_heldMeasure.f k bt517.1 bt517.2.1 bt517.2.2.1 bt542.2 1).bind fun t566 => (if t566 < 0 then (none) else (if t566 = bt542.1 then (some true) else (none)))) else (none)) else (none))))))) else (none))))) else (none)))))) else (none)))) else (none)))) else (none)) else (none)))))))))))))
def laws_FnExactRefineAt.T7 : Bool × List (List Nat × List Nat) := (true, [([], []), ([], []), ([1], [1]), ([], []), ([3, 2], [3]), ([], []), ([5, 4], [5]), ([0, 2, 4, 6, 6], [0, 2, 4, 6]), ([7], [7]), ([8], [8]), ([8], [8]), ([], []), ([11, 9, 7, 0, 1, 2, 3, 4, 5, 6, 7, 8, 9, 11], [9, 11]), ([10, 12, 0, 1, 2, 3, 4, 5, 6, 7, 8, 9, 10, 11, 12], [10])])
def laws_FnExactRefineAt.B7 : List Nat := [0, 0, 2, 0, 14, 0, 62, 127, 255, 511, 511, 0, 3071, 8191]
theorem laws_FnExactRefineAt.tab7 : rtab .any (opsOf Try.f5 7) = laws_FnExactRefineAt.T7 := by kernel_rfl
theorem laws_FnExactRefineAt.bits7 : waitsOk laws_FnExactRefineAt.T7.2 laws_FnExactRefineAt.B7 = true := by kernel_rfl
def laws_FnExactRefineAt.T10 : Bool × List (List Nat × List Nat) := (true, [([], []), ([], []), ([], []), ([2], [2]), ([], []), ([0, 1, 3, 4, 3], [0, 1, 3, 4]), ([5], [5]), ([6], [6]), ([6], [6]), ([], []), ([9, 7, 5, 0, 1, 2, 3, 4, 5, 6, 7, 9], [7, 9]), ([8, 10, 0, 1, 2, 3, 4, 5, 6, 7, 8, 9, 10], [8])])
def laws_FnExactRefineAt.B10 : List Nat := [0, 0, 0, 4, 0, 31, 63, 127, 127, 0, 767, 2047]
theorem laws_FnExactRefineAt.tab10 : rtab .any (opsOf Try.f5 10) = laws_FnExactRefineAt.T10 := by kernel_rfl
theorem laws_FnExactRefineAt.bits10 : waitsOk laws_FnExactRefineAt.T10.2 laws_FnExactRefineAt.B10 = true := by kernel_rfl
def laws_FnExactRefineAt.T30 : Bool × List (List Nat × List Nat) := (true, [([], []), ([], []), ([1], [1]), ([], []), ([3, 2], [3]), ([], []), ([5, 4], [5]), ([0, 2, 4, 6, 6], [0, 2, 4, 6]), ([7], [7]), ([8], [8]), ([8], [8]), ([], []), ([11, 9, 7, 0, 1, 2, 3, 4, 5, 6, 7, 8, 9, 11], [9, 11]), ([10, 12, 0, 1, 2, 3, 4, 5, 6, 7, 8, 9, 10, 11, 12], [10])])
def laws_FnExactRefineAt.B30 : List Nat := [0, 0, 2, 0, 14, 0, 62, 127, 255, 511, 511, 0, 3071, 8191]
theorem laws_FnExactRefineAt.tab30 : rtab .any (opsOf Try.f5 30) = laws_FnExactRefineAt.T30 := by kernel_rfl
theorem laws_FnExactRefineAt.bits30 : waitsOk laws_FnExactRefineAt.T30.2 laws_FnExactRefineAt.B30 = true := by kernel_rfl
set_option maxHeartbeats 8000000 in
set_option maxRecDepth 100000 in
theorem laws_FnExactRefineAt.calls (k : Nat) (a0 a1_0 a1_1 a1_2 : Int) (A1_3 : Option Addr) (c1_3 : Nat) (l1_3 : List (S103)) (a2_0 a2_1 a2_2 : Int) (A3 : Option Addr) (c3 : Nat) (l3 : List Int) (r : Bool) (w : World) (hr1_3 : Kd.C k103 w A1_3 l1_3.length l1_3) (hc1_3 : l1_3.length ≤ c1_3) (hr3 : Kd.C (Kd.int .i64) w A3 l3.length l3) (hc3 : l3.length ≤ c3) (h : laws_FnExactRefineAt.f k a0 a1_0 a1_1 a1_2 l1_3 a2_0 a2_1 a2_2 l3 = some r) :
  Calls Try.prog 5 #[.int .i64 a0, .agg #[.int .i64 a1_0, .int .i64 a1_1, .int .i64 a1_2, .slice A1_3 l1_3.length c1_3], .agg #[.int .i64 a2_0, .int .i64 a2_1, .int .i64 a2_2], .slice A3 l3.length c3] w fun e w' => e = .returned (.bool r) ∧ Below w.heap.size w w' := by
 have hu26 := Try.underlying26
 have hu23 := Try.underlying23
 have hu34 := Try.underlying34
 have HR1_3 := Aside0.mk hr1_3
 have HC1_3 := Aside0.mk hc1_3
 clear hr1_3 hc1_3
 have HR3 := Aside0.mk hr3
 have HC3 := Aside0.mk hc3
 clear hr3 hc3
 have HB := Aside0.mk (Below.refl w.heap.size w)
 unfold laws_FnExactRefineAt.f at h
 have H := h
 clear h
 by_cases c5 : (l3.length : Int) > 1048576
 ·rw [if_pos c5] at H
  have c5b0 : decide (1048576 < (l3.length : Int)) = true := decide_eq_true c5
  have c5b1 : decide (1048576 < l3.length) = true := decide_eq_true (by omega)
  clear c5
  obtain rfl := si_ H
  go_enter Try.func5, Try.ntmps5
  go_wp2_with (first | ((refine gd_ 5 ?_); refine by_ 5 #[.int .i64 a1_0, .int .i64 a1_1, .int .i64 a1_2, .slice A1_3 l1_3.length c1_3] 26 HB ?_; intro gb481 hg w6 BK481 hb GW481 HB_; replace HB := HB_; clear hb hg) | ((refine gd_ 6 ?_); refine by_ 6 #[.int .i64 a2_0, .int .i64 a2_1, .int .i64 a2_2] 23 HB ?_; intro gb482 hg w7 BK482 hb GW482 HB_; have NB481_482 := bm_ BK481 hg; have NB482_481 := bn_ BK481 hg; replace BK481 := bb_ BK481 hb; replace HB := HB_; clear hb hg))
  go_ret
  exact ⟨es_, (bw_ HB).out⟩
 rw [if_neg c5] at H
 have c5b0 : decide (1048576 < (l3.length : Int)) = false := decide_eq_false c5
 have c5b1 : decide (1048576 < l3.length) = false := decide_eq_false (by omega)
 clear c5
 replace H := oc_ H
 obtain ⟨t483, A8, H⟩ := H
 replace H := il_ H
 rcases H with ⟨c9b0, H⟩ | ⟨c9b0, H⟩
 ·obtain rfl := si_ H
  go_enter Try.func5, Try.ntmps5
  go_wp2_with (first | ((refine gd_ 5 ?_); refine by_ 5 #[.int .i64 a1_0, .int .i64 a1_1, .int .i64 a1_2, .slice A1_3 l1_3.length c1_3] 26 HB ?_; intro gb481 hg w10 BK481 hb GW481 HB_; replace HB := HB_; clear hb hg) | ((refine gd_ 6 ?_); refine by_ 6 #[.int .i64 a2_0, .int .i64 a2_1, .int .i64 a2_2] 23 HB ?_; intro gb482 hg w11 BK482 hb GW482 HB_; have NB481_482 := bm_ BK481 hg; have NB482_481 := bn_ BK481 hg; replace BK481 := bb_ BK481 hb; replace HB := HB_; clear hb hg; have hnb12 := NB481_482.out; have hnc12 := NB482_481.out; obtain ⟨hcz13_0, hcz13_1, hcz13_2, hcz13_3, hfz13_0, hfz13_1, hfz13_2, hfz13_3⟩ := ch4_ BK481) | ((refine gc_ 7 ?_); refine ge_ 26 Try.func7 #[.agg #[.int .i64 a1_0, .int .i64 a1_1, .int .i64 a1_2, .slice A1_3 l1_3.length c1_3], .int .i64 1048576] ?_; (with_reducible refine (laws_szMeasure.calls a1_0 a1_1 a1_2 _ _ l1_3 1048576 t483 _ ?side1 ?side2 A8.out).mono ?_); (case side1 => exact ca_ (Kd.C_below HR1_3.out HB.out)); (case side2 => exact HC1_3.out); rintro e w14 ⟨rfl, hb⟩; refine ⟨_, rfl, ?_⟩; replace BK481 := bb_ BK481 hb; replace BK482 := bb_ BK482 hb; replace HB := bt_ HB hb; (try clear hb)))
  go_ret
  exact ⟨es_, (bw_ HB).out⟩
 replace H := oc_ H
 obtain ⟨⟨t484, t485, t486, t487⟩, A15, H⟩ := H
 replace H := oc_ H
 obtain ⟨⟨t490, t491, t492⟩, A16, H⟩ := H
 replace H := oc_ H
 obtain ⟨t493, A17, H⟩ := H
 replace H := oc_ H
 obtain ⟨⟨t496, t497, t498, t499, t502⟩, A18, H⟩ := H
 replace H := oc_ H
 obtain ⟨⟨t504, t505, t506, t507⟩, A19, H⟩ := H
 replace H := oc_ H
 obtain ⟨t511, A20, H⟩ := H
 replace H := oc_ H
 obtain ⟨⟨t514, t515, t516⟩, A21, H⟩ := H
 replace H := oc_ H
 obtain ⟨⟨t517, t518, t519, t520, t523⟩, A22, H⟩ := H
 replace H := oc_ H
 obtain ⟨t525, A23, H⟩ := H
 replace H := ibn_ H
 obtain ⟨rfl, H⟩ := H
 replace H := ien_ H
 obtain ⟨c25b0, c25b1, H⟩ := H
 replace H := oc_ H
 obtain ⟨⟨t526, t527, t528, t529⟩, A26, H⟩ := H
 replace H := oc_ H
 obtain ⟨t532, A27, H⟩ := H
 replace H := ibn_ H
 obtain ⟨rfl, H⟩ := H
 replace H := oc_ H
 obtain ⟨t533, A29, H⟩ := H
 replace H := oc_ H
 obtain ⟨t536, A30, H⟩ := H
 replace H := ibn_ H
 obtain ⟨rfl, H⟩ := H
 replace H := oc_ H
 obtain ⟨⟨t537, t538⟩, A32, H⟩ := H
 replace H := oc_ H
 obtain ⟨⟨t539, t540⟩, A33, H⟩ := H
 replace H := ilf_ H
 obtain ⟨c34b0, H⟩ := H
 replace H := oc_ H
 obtain ⟨t541, A35, H⟩ := H
 replace H := ibn_ H
 obtain ⟨rfl, H⟩ := H
 replace H := oc_ H
 obtain ⟨⟨t542, t543⟩, A37, H⟩ := H
 replace H := oc_ H
 obtain ⟨t544, A38, H⟩ := H
 replace H := ilf_ H
 obtain ⟨c39b0, H⟩ := H
 replace H := ien_ H
 obtain ⟨c40b0, c40b1, H⟩ := H
 replace H := oc_ H
 obtain ⟨⟨t545, t546, t547, t548⟩, A41, H⟩ := H
 replace H := oc_ H
 obtain ⟨⟨t551, t552, t553⟩, A42, H⟩ := H
 replace H := oc_ H
 obtain ⟨t554, A43, H⟩ := H
 replace H := oc_ H
 obtain ⟨⟨t557, t558, t559, t560, t563⟩, A44, H⟩ := H
 replace H := oc_ H
 obtain ⟨t565, A45, H⟩ := H
 replace H := ibn_ H
 obtain ⟨rfl, H⟩ := H
 replace H := ien_ H
 obtain ⟨c47b0, c47b1, H⟩ := H
 replace H := oc_ H
 obtain ⟨t566, A48, H⟩ := H
 replace H := ilf_ H
 obtain ⟨c49b0, H⟩ := H
 replace H := ien_ H
 obtain ⟨c50b0, c50b1, H⟩ := H
 obtain rfl := si_ H
 go_enter Try.func5, Try.ntmps5
 try go_wp2_with (first | ((refine gd_ 5 ?_); refine by_ 5 #[.int .i64 a1_0, .int .i64 a1_1, .int .i64 a1_2, .slice A1_3 l1_3.length c1_3] 26 HB ?_; intro gb481 hg w51 BK481 hb GW481 HB_; replace HB := HB_; clear hb hg) | ((refine gd_ 6 ?_); refine by_ 6 #[.int .i64 a2_0, .int .i64 a2_1, .int .i64 a2_2] 23 HB ?_; intro gb482 hg w52 BK482 hb GW482 HB_; have NB481_482 := bm_ BK481 hg; have NB482_481 := bn_ BK481 hg; replace BK481 := bb_ BK481 hb; replace HB := HB_; clear hb hg; have hnb53 := NB481_482.out; have hnc53 := NB482_481.out; obtain ⟨hcz54_0, hcz54_1, hcz54_2, hcz54_3, hfz54_0, hfz54_1, hfz54_2, hfz54_3⟩ := ch4_ BK481) | ((refine gc_ 7 ?_); refine ge_ 26 Try.func7 #[.agg #[.int .i64 a1_0, .int .i64 a1_1, .int .i64 a1_2, .slice A1_3 l1_3.length c1_3], .int .i64 1048576] ?_; (with_reducible refine (laws_szMeasure.calls a1_0 a1_1 a1_2 _ _ l1_3 1048576 t483 _ ?side1 ?side2 A8.out).mono ?_); (case side1 => exact ca_ (Kd.C_below HR1_3.out HB.out)); (case side2 => exact HC1_3.out); rintro e w55 ⟨rfl, hb⟩; refine ⟨_, rfl, ?_⟩; replace BK481 := bb_ BK481 hb; replace BK482 := bb_ BK482 hb; replace HB := bt_ HB hb; (try clear hb)))
 replace BK481 := bd_ BK481
 replace BK482 := bd_ BK482
 replace HB := be_ HB
 refine start_ (n := 14) (S := fun w' => w'.cell? ⟨gb481, 0, none⟩ = some (.int .i64 a1_0) ∧ w'.cell? ⟨gb481, 1, none⟩ = some (.int .i64 a1_1) ∧ w'.cell? ⟨gb481, 2, none⟩ = some (.int .i64 a1_2) ∧ w'.cell? ⟨gb481, 3, none⟩ = some (.slice A1_3 l1_3.length c1_3) ∧ w'.cell? ⟨gb482, 0, none⟩ = some (.int .i64 a2_0) ∧ w'.cell? ⟨gb482, 1, none⟩ = some (.int .i64 a2_1) ∧ w'.cell? ⟨gb482, 2, none⟩ = some (.int .i64 a2_2)) (ds := []) (bv_ 14 0) (by kernel_rfl) rfl rfl ⟨cz_ BK481 0, cz_ BK481 1, cz_ BK481 2, cz_ BK481 3, cz_ BK482 0, cz_ BK482 1, cz_ BK482 2⟩ (fun hHeld => ?_); refine with_tabW laws_FnExactRefineAt.tab7 laws_FnExactRefineAt.bits7 (fun HT_ HW_ => ?_)
 generalize w55.drew = w56 at BK481 BK482 HB hHeld ⊢
 refine px_ HT_ 0 30 1 ?_
 refine px_ HT_ 5 35 33 ?_
 refine ta_ HT_ HW_ 1 (some 31) (bv_ 14 35) hHeld ?_ (hy := by rintro w' ⟨s0, s1, s2, s3, s4, s5, s6⟩; go_simp; with_reducible rfl)
 refine ta_ HT_ HW_ 3 (some 33) (bv_ 14 43) hHeld ?_ (hy := by rintro w' ⟨s0, s1, s2, s3, s4, s5, s6⟩; go_simp; with_reducible rfl)
 refine join_ (σ := Value × Value × Value × Nat) 2 (bv_ 14 4095) (fun s_ => [(32, .agg #[.int .i64 t484, .int .i64 t485, .int .i64 t486, s_.1]), (34, .agg #[.int .i64 t490, .int .i64 t491, .int .i64 t492]), (36, s_.2.1), (37, .tuple #[.agg #[.int .i64 t496, .int .i64 t497, .int .i64 t498, s_.2.2.1], .int .i64 t502]), (10, .pointer (some ⟨s_.2.2.2, 0, none⟩)), (29, .tuple #[.agg #[.int .i64 t496, .int .i64 t497, .int .i64 t498, s_.2.2.1], .int .i64 t502]), (38, .agg #[.int .i64 t496, .int .i64 t497, .int .i64 t498, s_.2.2.1]), (39, .int .i64 t502)]) (fun s_ w' => (w'.cell? ⟨gb481, 0, none⟩ = some (.int .i64 a1_0) ∧ w'.cell? ⟨gb481, 1, none⟩ = some (.int .i64 a1_1) ∧ w'.cell? ⟨gb481, 2, none⟩ = some (.int .i64 a1_2) ∧ w'.cell? ⟨gb481, 3, none⟩ = some (.slice A1_3 l1_3.length c1_3) ∧ w'.cell? ⟨gb482, 0, none⟩ = some (.int .i64 a2_0) ∧ w'.cell? ⟨gb482, 1, none⟩ = some (.int .i64 a2_1) ∧ w'.cell? ⟨gb482, 2, none⟩ = some (.int .i64 a2_2)) ∧ (Kd.R k72 72 w' w.heap.size (fun k_ => some k_ ≠ (s_.2.2.1 : Value).ownBlock) s_.1 t487) ∧ (Kd.R (Kd.int .i64) 2 w' w.heap.size (fun _ => True) s_.2.1 t493) ∧ (Kd.R k72 72 w' w.heap.size (fun k_ => some k_ ≠ (s_.1 : Value).ownBlock) s_.2.2.1 t499) ∧ (w'.heap[gb481]? = some (.cells #[.int .i64 a1_0, .int .i64 a1_1, .int .i64 a1_2, .slice A1_3 l1_3.length c1_3] 26 (0, 0))) ∧ (w'.heap[gb482]? = some (.cells #[.int .i64 a2_0, .int .i64 a2_1, .int .i64 a2_2] 23 (0, 0))) ∧ (w'.heap[s_.2.2.2]? = some (.cells #[.int .i64 0, .int .i64 0, .int .i64 0, .slice none 0 0] 34 (0, 0))) ∧ (w.heap.size ≤ s_.2.2.2) ∧ (w.heap.size ≤ s_.2.2.2) ∧ (gb481 ≠ s_.2.2.2) ∧ (s_.2.2.2 ≠ gb481) ∧ (gb482 ≠ s_.2.2.2) ∧ (s_.2.2.2 ≠ gb482) ∧ (Below w.heap.size w w')) ?_ ?_
 rotate_left
 ·intro hJ2_4_6_7_11
  refine join_ (σ := Value × Value × Value) 3 (bv_ 14 2047) (fun s_ => [(32, .agg #[.int .i64 t484, .int .i64 t485, .int .i64 t486, s_.1]), (34, .agg #[.int .i64 t490, .int .i64 t491, .int .i64 t492]), (36, s_.2.1), (37, .tuple #[.agg #[.int .i64 t496, .int .i64 t497, .int .i64 t498, s_.2.2], .int .i64 t502]), (29, .tuple #[.agg #[.int .i64 t496, .int .i64 t497, .int .i64 t498, s_.2.2], .int .i64 t502]), (38, .agg #[.int .i64 t496, .int .i64 t497, .int .i64 t498, s_.2.2]), (39, .int .i64 t502)]) (fun s_ w' => (w'.cell? ⟨gb481, 0, none⟩ = some (.int .i64 a1_0) ∧ w'.cell? ⟨gb481, 1, none⟩ = some (.int .i64 a1_1) ∧ w'.cell? ⟨gb481, 2, none⟩ = some (.int .i64 a1_2) ∧ w'.cell? ⟨gb481, 3, none⟩ = some (.slice A1_3 l1_3.length c1_3) ∧ w'.cell? ⟨gb482, 0, none⟩ = some (.int .i64 a2_0) ∧ w'.cell? ⟨gb482, 1, none⟩ = some (.int .i64 a2_1) ∧ w'.cell? ⟨gb482, 2, none⟩ = some (.int .i64 a2_2)) ∧ (Kd.R k72 72 w' w.heap.size (fun k_ => some k_ ≠ (s_.2.2 : Value).ownBlock) s_.1 t487) ∧ (Kd.R (Kd.int .i64) 2 w' w.heap.size (fun _ => True) s_.2.1 t493) ∧ (Kd.R k72 72 w' w.heap.size (fun k_ => some k_ ≠ (s_.1 : Value).ownBlock) s_.2.2 t499) ∧ (w'.heap[gb481]? = some (.cells #[.int .i64 a1_0, .int .i64 a1_1, .int .i64 a1_2, .slice A1_3 l1_3.length c1_3] 26 (0, 0))) ∧ (w'.heap[gb482]? = some (.cells #[.int .i64 a2_0, .int .i64 a2_1, .int .i64 a2_2] 23 (0, 0))) ∧ (Below w.heap.size w w')) ?_ ?_
  rotate_left
  ·intro hJ2_4_6_7
   refine join_ (σ := Value × Value × Nat) 6 (bv_ 14 2175) (fun s_ => [(32, .agg #[.int .i64 t484, .int .i64 t485, .int .i64 t486, s_.1]), (34, .agg #[.int .i64 t490, .int .i64 t491, .int .i64 t492]), (36, s_.2.1), (10, .pointer (some ⟨s_.2.2, 0, none⟩))]) (fun s_ w' => (w'.cell? ⟨gb481, 0, none⟩ = some (.int .i64 a1_0) ∧ w'.cell? ⟨gb481, 1, none⟩ = some (.int .i64 a1_1) ∧ w'.cell? ⟨gb481, 2, none⟩ = some (.int .i64 a1_2) ∧ w'.cell? ⟨gb481, 3, none⟩ = some (.slice A1_3 l1_3.length c1_3) ∧ w'.cell? ⟨gb482, 0, none⟩ = some (.int .i64 a2_0) ∧ w'.cell? ⟨gb482, 1, none⟩ = some (.int .i64 a2_1) ∧ w'.cell? ⟨gb482, 2, none⟩ = some (.int .i64 a2_2)) ∧ (Kd.R k72 72 w' w.heap.size (fun _ => True) s_.1 t487) ∧ (Kd.R (Kd.int .i64) 2 w' w.heap.size (fun _ => True) s_.2.1 t493) ∧ (w'.heap[gb481]? = some (.cells #[.int .i64 a1_0, .int .i64 a1_1, .int .i64 a1_2, .slice A1_3 l1_3.length c1_3] 26 (0, 0))) ∧ (w'.heap[gb482]? = some (.cells #[.int .i64 a2_0, .int .i64 a2_1, .int .i64 a2_2] 23 (0, 0))) ∧ (w'.heap[s_.2.2]? = some (.cells #[.int .i64 0, .int .i64 0, .int .i64 0, .slice none 0 0] 34 (0, 0))) ∧ (w.heap.size ≤ s_.2.2) ∧ (w.heap.size ≤ s_.2.2) ∧ (gb481 ≠ s_.2.2) ∧ (s_.2.2 ≠ gb481) ∧ (gb482 ≠ s_.2.2) ∧ (s_.2.2 ≠ gb482) ∧ (Below w.heap.size w w')) ?_ ?_
   rotate_left
   ·intro hJ2_4_6_11
    refine join_ (σ := Value × Value) 7 (bv_ 14 127) (fun s_ => [(32, .agg #[.int .i64 t484, .int .i64 t485, .int .i64 t486, s_.1]), (34, .agg #[.int .i64 t490, .int .i64 t491, .int .i64 t492]), (36, s_.2)]) (fun s_ w' => (w'.cell? ⟨gb481, 0, none⟩ = some (.int .i64 a1_0) ∧ w'.cell? ⟨gb481, 1, none⟩ = some (.int .i64 a1_1) ∧ w'.cell? ⟨gb481, 2, none⟩ = some (.int .i64 a1_2) ∧ w'.cell? ⟨gb481, 3, none⟩ = some (.slice A1_3 l1_3.length c1_3) ∧ w'.cell? ⟨gb482, 0, none⟩ = some (.int .i64 a2_0) ∧ w'.cell? ⟨gb482, 1, none⟩ = some (.int .i64 a2_1) ∧ w'.cell? ⟨gb482, 2, none⟩ = some (.int .i64 a2_2)) ∧ (Kd.R k72 72 w' w.heap.size (fun _ => True) s_.1 t487) ∧ (Kd.R (Kd.int .i64) 2 w' w.heap.size (fun _ => True) s_.2 t493) ∧ (w'.heap[gb481]? = some (.cells #[.int .i64 a1_0, .int .i64 a1_1, .int .i64 a1_2, .slice A1_3 l1_3.length c1_3] 26 (0, 0))) ∧ (w'.heap[gb482]? = some (.cells #[.int .i64 a2_0, .int .i64 a2_1, .int .i64 a2_2] 23 (0, 0))) ∧ (Below w.heap.size w w')) ?_ ?_
    rotate_left
    ·intro hJ2_4_6
     refine join_ (σ := Value × Nat) 7 (bv_ 14 2111) (fun s_ => [(32, .agg #[.int .i64 t484, .int .i64 t485, .int .i64 t486, s_.1]), (34, .agg #[.int .i64 t490, .int .i64 t491, .int .i64 t492]), (10, .pointer (some ⟨s_.2, 0, none⟩))]) (fun s_ w' => (w'.cell? ⟨gb481, 0, none⟩ = some (.int .i64 a1_0) ∧ w'.cell? ⟨gb481, 1, none⟩ = some (.int .i64 a1_1) ∧ w'.cell? ⟨gb481, 2, none⟩ = some (.int .i64 a1_2) ∧ w'.cell? ⟨gb481, 3, none⟩ = some (.slice A1_3 l1_3.length c1_3) ∧ w'.cell? ⟨gb482, 0, none⟩ = some (.int .i64 a2_0) ∧ w'.cell? ⟨gb482, 1, none⟩ = some (.int .i64 a2_1) ∧ w'.cell? ⟨gb482, 2, none⟩ = some (.int .i64 a2_2)) ∧ (Kd.R k72 72 w' w.heap.size (fun _ => True) s_.1 t487) ∧ (w'.heap[gb481]? = some (.cells #[.int .i64 a1_0, .int .i64 a1_1, .int .i64 a1_2, .slice A1_3 l1_3.length c1_3] 26 (0, 0))) ∧ (w'.heap[gb482]? = some (.cells #[.int .i64 a2_0, .int .i64 a2_1, .int .i64 a2_2] 23 (0, 0))) ∧ (w'.heap[s_.2]? = some (.cells #[.int .i64 0, .int .i64 0, .int .i64 0, .slice none 0 0] 34 (0, 0))) ∧ (w.heap.size ≤ s_.2) ∧ (w.heap.size ≤ s_.2) ∧ (gb481 ≠ s_.2) ∧ (s_.2 ≠ gb481) ∧ (gb482 ≠ s_.2) ∧ (s_.2 ≠ gb482) ∧ (Below w.heap.size w w')) ?_ ?_
     rotate_left
     ·intro hJ2_4_11
      refine join_ (σ := Value) 8 (bv_ 14 63) (fun s_ => [(32, .agg #[.int .i64 t484, .int .i64 t485, .int .i64 t486, s_]), (34, .agg #[.int .i64 t490, .int .i64 t491, .int .i64 t492])]) (fun s_ w' => (w'.cell? ⟨gb481, 0, none⟩ = some (.int .i64 a1_0) ∧ w'.cell? ⟨gb481, 1, none⟩ = some (.int .i64 a1_1) ∧ w'.cell? ⟨gb481, 2, none⟩ = some (.int .i64 a1_2) ∧ w'.cell? ⟨gb481, 3, none⟩ = some (.slice A1_3 l1_3.length c1_3) ∧ w'.cell? ⟨gb482, 0, none⟩ = some (.int .i64 a2_0) ∧ w'.cell? ⟨gb482, 1, none⟩ = some (.int .i64 a2_1) ∧ w'.cell? ⟨gb482, 2, none⟩ = some (.int .i64 a2_2)) ∧ (Kd.R k72 72 w' w.heap.size (fun _ => True) s_ t487) ∧ (w'.heap[gb481]? = some (.cells #[.int .i64 a1_0, .int .i64 a1_1, .int .i64 a1_2, .slice A1_3 l1_3.length c1_3] 26 (0, 0))) ∧ (w'.heap[gb482]? = some (.cells #[.int .i64 a2_0, .int .i64 a2_1, .int .i64 a2_2] 23 (0, 0))) ∧ (Below w.heap.size w w')) ?_ ?_
      rotate_left
      ·intro hJ2_4
       refine join_ (σ := Value × Nat) 8 (bv_ 14 2095) (fun s_ => [(32, .agg #[.int .i64 t484, .int .i64 t485, .int .i64 t486, s_.1]), (10, .pointer (some ⟨s_.2, 0, none⟩))]) (fun s_ w' => (w'.cell? ⟨gb481, 0, none⟩ = some (.int .i64 a1_0) ∧ w'.cell? ⟨gb481, 1, none⟩ = some (.int .i64 a1_1) ∧ w'.cell? ⟨gb481, 2, none⟩ = some (.int .i64 a1_2) ∧ w'.cell? ⟨gb481, 3, none⟩ = some (.slice A1_3 l1_3.length c1_3) ∧ w'.cell? ⟨gb482, 0, none⟩ = some (.int .i64 a2_0) ∧ w'.cell? ⟨gb482, 1, none⟩ = some (.int .i64 a2_1) ∧ w'.cell? ⟨gb482, 2, none⟩ = some (.int .i64 a2_2)) ∧ (Kd.R k72 72 w' w.heap.size (fun _ => True) s_.1 t487) ∧ (w'.heap[gb481]? = some (.cells #[.int .i64 a1_0, .int .i64 a1_1, .int .i64 a1_2, .slice A1_3 l1_3.length c1_3] 26 (0, 0))) ∧ (w'.heap[gb482]? = some (.cells #[.int .i64 a2_0, .int .i64 a2_1, .int .i64 a2_2] 23 (0, 0))) ∧ (w'.heap[s_.2]? = some (.cells #[.int .i64 0, .int .i64 0, .int .i64 0, .slice none 0 0] 34 (0, 0))) ∧ (w.heap.size ≤ s_.2) ∧ (w.heap.size ≤ s_.2) ∧ (gb481 ≠ s_.2) ∧ (s_.2 ≠ gb481) ∧ (gb482 ≠ s_.2) ∧ (s_.2 ≠ gb482) ∧ (Below w.heap.size w w')) ?_ ?_
       rotate_left
       ·intro hJ2_11
        refine join_ (σ := Value) 9 (bv_ 14 47) (fun s_ => [(32, .agg #[.int .i64 t484, .int .i64 t485, .int .i64 t486, s_])]) (fun s_ w' => (w'.cell? ⟨gb481, 0, none⟩ = some (.int .i64 a1_0) ∧ w'.cell? ⟨gb481, 1, none⟩ = some (.int .i64 a1_1) ∧ w'.cell? ⟨gb481, 2, none⟩ = some (.int .i64 a1_2) ∧ w'.cell? ⟨gb481, 3, none⟩ = some (.slice A1_3 l1_3.length c1_3) ∧ w'.cell? ⟨gb482, 0, none⟩ = some (.int .i64 a2_0) ∧ w'.cell? ⟨gb482, 1, none⟩ = some (.int .i64 a2_1) ∧ w'.cell? ⟨gb482, 2, none⟩ = some (.int .i64 a2_2)) ∧ (Kd.R k72 72 w' w.heap.size (fun _ => True) s_ t487) ∧ (w'.heap[gb481]? = some (.cells #[.int .i64 a1_0, .int .i64 a1_1, .int .i64 a1_2, .slice A1_3 l1_3.length c1_3] 26 (0, 0))) ∧ (w'.heap[gb482]? = some (.cells #[.int .i64 a2_0, .int .i64 a2_1, .int .i64 a2_2] 23 (0, 0))) ∧ (Below w.heap.size w w')) ?_ ?_
        rotate_left
        ·intro hJ2
         refine join_ (σ := Nat) 9 (bv_ 14 2091) (fun s_ => [(10, .pointer (some ⟨s_, 0, none⟩))]) (fun s_ w' => (w'.cell? ⟨gb481, 0, none⟩ = some (.int .i64 a1_0) ∧ w'.cell? ⟨gb481, 1, none⟩ = some (.int .i64 a1_1) ∧ w'.cell? ⟨gb481, 2, none⟩ = some (.int .i64 a1_2) ∧ w'.cell? ⟨gb481, 3, none⟩ = some (.slice A1_3 l1_3.length c1_3) ∧ w'.cell? ⟨gb482, 0, none⟩ = some (.int .i64 a2_0) ∧ w'.cell? ⟨gb482, 1, none⟩ = some (.int .i64 a2_1) ∧ w'.cell? ⟨gb482, 2, none⟩ = some (.int .i64 a2_2)) ∧ (w'.heap[gb481]? = some (.cells #[.int .i64 a1_0, .int .i64 a1_1, .int .i64 a1_2, .slice A1_3 l1_3.length c1_3] 26 (0, 0))) ∧ (w'.heap[gb482]? = some (.cells #[.int .i64 a2_0, .int .i64 a2_1, .int .i64 a2_2] 23 (0, 0))) ∧ (w'.heap[s_]? = some (.cells #[.int .i64 0, .int .i64 0, .int .i64 0, .slice none 0 0] 34 (0, 0))) ∧ (w.heap.size ≤ s_) ∧ (w.heap.size ≤ s_) ∧ (gb481 ≠ s_) ∧ (s_ ≠ gb481) ∧ (gb482 ≠ s_) ∧ (s_ ≠ gb482) ∧ (Below w.heap.size w w')) ?_ ?_
         rotate_left
         ·intro hJ11
          refine tw_ HT_ 2 11 (some 32) (some 10) (bv_ 14 47) (bv_ 14 2091) (fun K hK => ?_) (fun K hK => ?_)
          ·skip
           refine gs_ Try.func9 #[.agg #[.int .i64 a1_0, .int .i64 a1_1, .int .i64 a1_2, .slice A1_3 l1_3.length c1_3]] ?_
           with_reducible refine (laws_toMeasure.calls k a1_0 a1_1 a1_2 _ _ l1_3 t484 t485 t486 t487 _ ?side1 ?side2 A15.out).mono ?_
           (case side1 => exact ca_ (Kd.C_below HR1_3.out HB.out))
           (case side2 => exact HC1_3.out)
           rintro e w57 ⟨v488, rfl, ho0, hb⟩
           refine ⟨_, rfl, ?_⟩
           have HO489 := Aside0.mk (Kd.R_lower ho0 (below_size (bw_ HB).out))
           replace BK481 := bb_ BK481 hb
           replace BK482 := bb_ BK482 hb
           replace HB := bt_ HB hb
           try clear hb
           (try clear ho0)
           refine hK.out _ _ ⟨cz_ BK481 0, cz_ BK481 1, cz_ BK481 2, cz_ BK481 3, cz_ BK482 0, cz_ BK482 1, cz_ BK482 2⟩ (fun hHeld => ?_)
           clear hK K
           refine nm_ (some 32) ?_
           exact norm_ (by first | (simp only [putAll, Act.put, lstS, lstZ, lstC]; done) | (simp only [putAll, Act.put, lstS, lstZ, lstC]; rfl)) (hJ2 (v488) _ ⟨hHeld, (ra_ HO489.out), (bl_ BK481).out, (bl_ BK482).out, (bw_ HB).out⟩)
          skip
          refine bz_ 10 #[.int .i64 0, .int .i64 0, .int .i64 0, .slice none 0 0] 34 ?_
          intro gb503 hg w57 BK503 hb
          have GW503 := bs_ HB hg
          have NB481_503 := bm_ BK481 hg
          have NB503_481 := bn_ BK481 hg
          have NB482_503 := bm_ BK482 hg
          have NB503_482 := bn_ BK482 hg
          replace BK481 := bb_ BK481 hb
          replace BK482 := bb_ BK482 hb
          replace HB := bt_ HB hb
          clear hb hg
          refine hK.out _ _ ⟨cz_ BK481 0, cz_ BK481 1, cz_ BK481 2, cz_ BK481 3, cz_ BK482 0, cz_ BK482 1, cz_ BK482 2⟩ (fun hHeld => ?_)
          clear hK K
          refine nm_ (some 10) ?_
          exact norm_ (by first | (simp only [putAll, Act.put, lstS, lstZ, lstC]; done) | (simp only [putAll, Act.put, lstS, lstZ, lstC]; rfl)) (hJ11 (gb503) _ ⟨hHeld, (bl_ BK481).out, (bl_ BK482).out, (bl_ BK503).out, GW503.out, GW503.out, NB481_503.out, NB503_481.out, NB482_503.out, NB503_482.out, (bw_ HB).out⟩)
         skip
         rintro gb503 w58 ⟨hS_, h0_, h1_, h2_, h3_, h4_, h5_, h6_, h7_, h8_, h9_⟩
         clear BK481 BK482 HB
         have BK481 := Aside0.mk h0_
         have BK482 := Aside0.mk h1_
         have BK503 := Aside0.mk h2_
         have GW503 := Aside0.mk h3_
         have GW503 := Aside0.mk h4_
         have NB481_503 := Aside0.mk h5_
         have NB503_481 := Aside0.mk h6_
         have NB482_503 := Aside0.mk h7_
         have NB503_482 := Aside0.mk h8_
         have HB := Aside0.mk h9_
         clear h0_ h1_ h2_ h3_ h4_ h5_ h6_ h7_ h8_ h9_
         have hHeld : w58.cell? ⟨gb481, 0, none⟩ = some (.int .i64 a1_0) ∧ w58.cell? ⟨gb481, 1, none⟩ = some (.int .i64 a1_1) ∧ w58.cell? ⟨gb481, 2, none⟩ = some (.int .i64 a1_2) ∧ w58.cell? ⟨gb481, 3, none⟩ = some (.slice A1_3 l1_3.length c1_3) ∧ w58.cell? ⟨gb482, 0, none⟩ = some (.int .i64 a2_0) ∧ w58.cell? ⟨gb482, 1, none⟩ = some (.int .i64 a2_1) ∧ w58.cell? ⟨gb482, 2, none⟩ = some (.int .i64 a2_2) := hS_
         refine norm_ (a' := ?_) ?_ ?_
         rotate_left
         ·simp only [putAll, Act.put, lstS, lstZ, lstC]
          rfl
         refine on_ HT_ 2 (some 32) (bv_ 14 2095) (fun K hK => ?_)
         refine gs_ Try.func9 #[.agg #[.int .i64 a1_0, .int .i64 a1_1, .int .i64 a1_2, .slice A1_3 l1_3.length c1_3]] ?_
         with_reducible refine (laws_toMeasure.calls k a1_0 a1_1 a1_2 _ _ l1_3 t484 t485 t486 t487 _ ?side1 ?side2 A15.out).mono ?_
         (case side1 => exact ca_ (Kd.C_below HR1_3.out HB.out))
         (case side2 => exact HC1_3.out)
         rintro e w59 ⟨v488, rfl, ho0, hb⟩
         refine ⟨_, rfl, ?_⟩
         have HO489 := Aside0.mk (Kd.R_lower ho0 (below_size (bw_ HB).out))
         replace BK481 := bb_ BK481 hb
         replace BK482 := bb_ BK482 hb
         replace BK503 := bb_ BK503 hb
         replace HB := bt_ HB hb
         try clear hb
         (try clear ho0)
         refine hK.out _ _ ⟨cz_ BK481 0, cz_ BK481 1, cz_ BK481 2, cz_ BK481 3, cz_ BK482 0, cz_ BK482 1, cz_ BK482 2⟩ (fun hHeld => ?_)
         clear hK K
         refine nm_ (some 32) ?_
         exact norm_ (by first | (simp only [putAll, Act.put, lstS, lstZ, lstC]; done) | (simp only [putAll, Act.put, lstS, lstZ, lstC]; rfl)) (hJ2_11 (v488, gb503) _ ⟨hHeld, (ra_ HO489.out), (bl_ BK481).out, (bl_ BK482).out, (bl_ BK503).out, GW503.out, GW503.out, NB481_503.out, NB503_481.out, NB482_503.out, NB503_482.out, (bw_ HB).out⟩)
        skip
        rintro v488 w58 ⟨hS_, h0_, h1_, h2_, h3_⟩
        clear BK481 BK482 HB
        have HO489 := Aside0.mk h0_
        have BK481 := Aside0.mk h1_
        have BK482 := Aside0.mk h2_
        have HB := Aside0.mk h3_
        clear h0_ h1_ h2_ h3_
        have hHeld : w58.cell? ⟨gb481, 0, none⟩ = some (.int .i64 a1_0) ∧ w58.cell? ⟨gb481, 1, none⟩ = some (.int .i64 a1_1) ∧ w58.cell? ⟨gb481, 2, none⟩ = some (.int .i64 a1_2) ∧ w58.cell? ⟨gb481, 3, none⟩ = some (.slice A1_3 l1_3.length c1_3) ∧ w58.cell? ⟨gb482, 0, none⟩ = some (.int .i64 a2_0) ∧ w58.cell? ⟨gb482, 1, none⟩ = some (.int .i64 a2_1) ∧ w58.cell? ⟨gb482, 2, none⟩ = some (.int .i64 a2_2) := hS_
        refine norm_ (a' := ?_) ?_ ?_
        rotate_left
        ·simp only [putAll, Act.put, lstS, lstZ, lstC]
         rfl
        refine tw_ HT_ 4 11 (some 34) (some 10) (bv_ 14 63) (bv_ 14 2095) (fun K hK => ?_) (fun K hK => ?_)
        ·skip
         refine gs_ Try.func17 #[.agg #[.int .i64 a2_0, .int .i64 a2_1, .int .i64 a2_2]] ?_
         with_reducible refine (laws_toBall.calls a2_0 a2_1 a2_2 t490 t491 t492 _ A16.out).mono ?_
         rintro e w59 ⟨rfl, hb⟩
         refine ⟨_, rfl, ?_⟩
         replace HO489 := rb_ HO489 hb
         replace BK481 := bb_ BK481 hb
         replace BK482 := bb_ BK482 hb
         replace HB := bt_ HB hb
         try clear hb
         refine hK.out _ _ ⟨cz_ BK481 0, cz_ BK481 1, cz_ BK481 2, cz_ BK481 3, cz_ BK482 0, cz_ BK482 1, cz_ BK482 2⟩ (fun hHeld => ?_)
         clear hK K
         refine nm_ (some 34) ?_
         exact norm_ (by first | (simp only [putAll, Act.put, lstS, lstZ, lstC]; done) | (simp only [putAll, Act.put, lstS, lstZ, lstC]; rfl)) (hJ2_4 (v488) _ ⟨hHeld, (ra_ HO489.out), (bl_ BK481).out, (bl_ BK482).out, (bw_ HB).out⟩)
        skip
        refine bz_ 10 #[.int .i64 0, .int .i64 0, .int .i64 0, .slice none 0 0] 34 ?_
        intro gb503 hg w59 BK503 hb
        have GW503 := bs_ HB hg
        have NB481_503 := bm_ BK481 hg
        have NB503_481 := bn_ BK481 hg
        have NB482_503 := bm_ BK482 hg
        have NB503_482 := bn_ BK482 hg
        replace HO489 := rb_ HO489 hb
        replace BK481 := bb_ BK481 hb
        replace BK482 := bb_ BK482 hb
        replace HB := bt_ HB hb
        clear hb hg
        refine hK.out _ _ ⟨cz_ BK481 0, cz_ BK481 1, cz_ BK481 2, cz_ BK481 3, cz_ BK482 0, cz_ BK482 1, cz_ BK482 2⟩ (fun hHeld => ?_)
        clear hK K
        refine nm_ (some 10) ?_
        exact norm_ (by first | (simp only [putAll, Act.put, lstS, lstZ, lstC]; done) | (simp only [putAll, Act.put, lstS, lstZ, lstC]; rfl)) (hJ2_11 (v488, gb503) _ ⟨hHeld, (ra_ HO489.out), (bl_ BK481).out, (bl_ BK482).out, (bl_ BK503).out, GW503.out, GW503.out, NB481_503.out, NB503_481.out, NB482_503.out, NB503_482.out, (bw_ HB).out⟩)
       skip
       rintro ⟨v488, gb503⟩ w59 ⟨hS_, h0_, h1_, h2_, h3_, h4_, h5_, h6_, h7_, h8_, h9_, h10_⟩
       clear BK481 BK482 HB
       have HO489 := Aside0.mk h0_
       have BK481 := Aside0.mk h1_
       have BK482 := Aside0.mk h2_
       have BK503 := Aside0.mk h3_
       have GW503 := Aside0.mk h4_
       have GW503 := Aside0.mk h5_
       have NB481_503 := Aside0.mk h6_
       have NB503_481 := Aside0.mk h7_
       have NB482_503 := Aside0.mk h8_
       have NB503_482 := Aside0.mk h9_
       have HB := Aside0.mk h10_
       clear h0_ h1_ h2_ h3_ h4_ h5_ h6_ h7_ h8_ h9_ h10_
       have hHeld : w59.cell? ⟨gb481, 0, none⟩ = some (.int .i64 a1_0) ∧ w59.cell? ⟨gb481, 1, none⟩ = some (.int .i64 a1_1) ∧ w59.cell? ⟨gb481, 2, none⟩ = some (.int .i64 a1_2) ∧ w59.cell? ⟨gb481, 3, none⟩ = some (.slice A1_3 l1_3.length c1_3) ∧ w59.cell? ⟨gb482, 0, none⟩ = some (.int .i64 a2_0) ∧ w59.cell? ⟨gb482, 1, none⟩ = some (.int .i64 a2_1) ∧ w59.cell? ⟨gb482, 2, none⟩ = some (.int .i64 a2_2) := hS_
       refine norm_ (a' := ?_) ?_ ?_
       rotate_left
       ·simp only [putAll, Act.put, lstS, lstZ, lstC]
        rfl
       refine on_ HT_ 4 (some 34) (bv_ 14 2111) (fun K hK => ?_)
       refine gs_ Try.func17 #[.agg #[.int .i64 a2_0, .int .i64 a2_1, .int .i64 a2_2]] ?_
       with_reducible refine (laws_toBall.calls a2_0 a2_1 a2_2 t490 t491 t492 _ A16.out).mono ?_
       rintro e w60 ⟨rfl, hb⟩
       refine ⟨_, rfl, ?_⟩
       replace HO489 := rb_ HO489 hb
       replace BK481 := bb_ BK481 hb
       replace BK482 := bb_ BK482 hb
       replace BK503 := bb_ BK503 hb
       replace HB := bt_ HB hb
       try clear hb
       refine hK.out _ _ ⟨cz_ BK481 0, cz_ BK481 1, cz_ BK481 2, cz_ BK481 3, cz_ BK482 0, cz_ BK482 1, cz_ BK482 2⟩ (fun hHeld => ?_)
       clear hK K
       refine nm_ (some 34) ?_
       exact norm_ (by first | (simp only [putAll, Act.put, lstS, lstZ, lstC]; done) | (simp only [putAll, Act.put, lstS, lstZ, lstC]; rfl)) (hJ2_4_11 (v488, gb503) _ ⟨hHeld, (ra_ HO489.out), (bl_ BK481).out, (bl_ BK482).out, (bl_ BK503).out, GW503.out, GW503.out, NB481_503.out, NB503_481.out, NB482_503.out, NB503_482.out, (bw_ HB).out⟩)
      skip
      rintro v488 w59 ⟨hS_, h0_, h1_, h2_, h3_⟩
      clear BK481 BK482 HB
      have HO489 := Aside0.mk h0_
      have BK481 := Aside0.mk h1_
      have BK482 := Aside0.mk h2_
      have HB := Aside0.mk h3_
      clear h0_ h1_ h2_ h3_
      have hHeld : w59.cell? ⟨gb481, 0, none⟩ = some (.int .i64 a1_0) ∧ w59.cell? ⟨gb481, 1, none⟩ = some (.int .i64 a1_1) ∧ w59.cell? ⟨gb481, 2, none⟩ = some (.int .i64 a1_2) ∧ w59.cell? ⟨gb481, 3, none⟩ = some (.slice A1_3 l1_3.length c1_3) ∧ w59.cell? ⟨gb482, 0, none⟩ = some (.int .i64 a2_0) ∧ w59.cell? ⟨gb482, 1, none⟩ = some (.int .i64 a2_1) ∧ w59.cell? ⟨gb482, 2, none⟩ = some (.int .i64 a2_2) := hS_
      refine norm_ (a' := ?_) ?_ ?_
      rotate_left
      ·simp only [putAll, Act.put, lstS, lstZ, lstC]
       rfl
      refine tw_ HT_ 6 11 (some 36) (some 10) (bv_ 14 127) (bv_ 14 2111) (fun K hK => ?_) (fun K hK => ?_)
      ·skip
       refine gs_ Try.func21 #[.slice A3 l3.length c3] ?_
       with_reducible refine (laws_toInt64S.calls k _ _ l3 t493 _ ?side1 ?side2 A17.out).mono ?_
       (case side1 => exact ca_ (Kd.C_below HR3.out HB.out))
       (case side2 => exact HC3.out)
       rintro e w60 ⟨v494, rfl, ho0, hb⟩
       refine ⟨_, rfl, ?_⟩
       have HO495 := Aside0.mk (Kd.R_lower ho0 (below_size (bw_ HB).out))
       replace HO489 := rb_ HO489 hb
       replace BK481 := bb_ BK481 hb
       replace BK482 := bb_ BK482 hb
       replace HB := bt_ HB hb
       try clear hb
       (try clear ho0)
       refine hK.out _ _ ⟨cz_ BK481 0, cz_ BK481 1, cz_ BK481 2, cz_ BK481 3, cz_ BK482 0, cz_ BK482 1, cz_ BK482 2⟩ (fun hHeld => ?_)
       clear hK K
       refine nm_ (some 36) ?_
       exact norm_ (by first | (simp only [putAll, Act.put, lstS, lstZ, lstC]; done) | (simp only [putAll, Act.put, lstS, lstZ, lstC]; rfl)) (hJ2_4_6 (v488, v494) _ ⟨hHeld, (ra_ HO489.out), (ra_ HO495.out), (bl_ BK481).out, (bl_ BK482).out, (bw_ HB).out⟩)
      skip
      refine bz_ 10 #[.int .i64 0, .int .i64 0, .int .i64 0, .slice none 0 0] 34 ?_
      intro gb503 hg w60 BK503 hb
      have GW503 := bs_ HB hg
      have NB481_503 := bm_ BK481 hg
      have NB503_481 := bn_ BK481 hg
      have NB482_503 := bm_ BK482 hg
      have NB503_482 := bn_ BK482 hg
      replace HO489 := rb_ HO489 hb
      replace BK481 := bb_ BK481 hb
      replace BK482 := bb_ BK482 hb
      replace HB := bt_ HB hb
      clear hb hg
      refine hK.out _ _ ⟨cz_ BK481 0, cz_ BK481 1, cz_ BK481 2, cz_ BK481 3, cz_ BK482 0, cz_ BK482 1, cz_ BK482 2⟩ (fun hHeld => ?_)
      clear hK K
      refine nm_ (some 10) ?_
      exact norm_ (by first | (simp only [putAll, Act.put, lstS, lstZ, lstC]; done) | (simp only [putAll, Act.put, lstS, lstZ, lstC]; rfl)) (hJ2_4_11 (v488, gb503) _ ⟨hHeld, (ra_ HO489.out), (bl_ BK481).out, (bl_ BK482).out, (bl_ BK503).out, GW503.out, GW503.out, NB481_503.out, NB503_481.out, NB482_503.out, NB503_482.out, (bw_ HB).out⟩)
     skip
     rintro ⟨v488, gb503⟩ w60 ⟨hS_, h0_, h1_, h2_, h3_, h4_, h5_, h6_, h7_, h8_, h9_, h10_⟩
     clear BK481 BK482 HB
     have HO489 := Aside0.mk h0_
     have BK481 := Aside0.mk h1_
     have BK482 := Aside0.mk h2_
     have BK503 := Aside0.mk h3_
     have GW503 := Aside0.mk h4_
     have GW503 := Aside0.mk h5_
     have NB481_503 := Aside0.mk h6_
     have NB503_481 := Aside0.mk h7_
     have NB482_503 := Aside0.mk h8_
     have NB503_482 := Aside0.mk h9_
     have HB := Aside0.mk h10_
     clear h0_ h1_ h2_ h3_ h4_ h5_ h6_ h7_ h8_ h9_ h10_
     have hHeld : w60.cell? ⟨gb481, 0, none⟩ = some (.int .i64 a1_0) ∧ w60.cell? ⟨gb481, 1, none⟩ = some (.int .i64 a1_1) ∧ w60.cell? ⟨gb481, 2, none⟩ = some (.int .i64 a1_2) ∧ w60.cell? ⟨gb481, 3, none⟩ = some (.slice A1_3 l1_3.length c1_3) ∧ w60.cell? ⟨gb482, 0, none⟩ = some (.int .i64 a2_0) ∧ w60.cell? ⟨gb482, 1, none⟩ = some (.int .i64 a2_1) ∧ w60.cell? ⟨gb482, 2, none⟩ = some (.int .i64 a2_2) := hS_
     refine norm_ (a' := ?_) ?_ ?_
     rotate_left
     ·simp only [putAll, Act.put, lstS, lstZ, lstC]
      rfl
     refine on_ HT_ 6 (some 36) (bv_ 14 2175) (fun K hK => ?_)
     refine gs_ Try.func21 #[.slice A3 l3.length c3] ?_
     with_reducible refine (laws_toInt64S.calls k _ _ l3 t493 _ ?side1 ?side2 A17.out).mono ?_
     (case side1 => exact ca_ (Kd.C_below HR3.out HB.out))
     (case side2 => exact HC3.out)
     rintro e w61 ⟨v494, rfl, ho0, hb⟩
     refine ⟨_, rfl, ?_⟩
     have HO495 := Aside0.mk (Kd.R_lower ho0 (below_size (bw_ HB).out))
     replace HO489 := rb_ HO489 hb
     replace BK481 := bb_ BK481 hb
     replace BK482 := bb_ BK482 hb
     replace BK503 := bb_ BK503 hb
     replace HB := bt_ HB hb
     try clear hb
     (try clear ho0)
     refine hK.out _ _ ⟨cz_ BK481 0, cz_ BK481 1, cz_ BK481 2, cz_ BK481 3, cz_ BK482 0, cz_ BK482 1, cz_ BK482 2⟩ (fun hHeld => ?_)
     clear hK K
     refine nm_ (some 36) ?_
     exact norm_ (by first | (simp only [putAll, Act.put, lstS, lstZ, lstC]; done) | (simp only [putAll, Act.put, lstS, lstZ, lstC]; rfl)) (hJ2_4_6_11 (v488, v494, gb503) _ ⟨hHeld, (ra_ HO489.out), (ra_ HO495.out), (bl_ BK481).out, (bl_ BK482).out, (bl_ BK503).out, GW503.out, GW503.out, NB481_503.out, NB503_481.out, NB482_503.out, NB503_482.out, (bw_ HB).out⟩)
    skip
    rintro ⟨v488, v494⟩ w60 ⟨hS_, h0_, h1_, h2_, h3_, h4_⟩
    clear BK481 BK482 HB
    have HO489 := Aside0.mk h0_
    have HO495 := Aside0.mk h1_
    have BK481 := Aside0.mk h2_
    have BK482 := Aside0.mk h3_
    have HB := Aside0.mk h4_
    clear h0_ h1_ h2_ h3_ h4_
    have hHeld : w60.cell? ⟨gb481, 0, none⟩ = some (.int .i64 a1_0) ∧ w60.cell? ⟨gb481, 1, none⟩ = some (.int .i64 a1_1) ∧ w60.cell? ⟨gb481, 2, none⟩ = some (.int .i64 a1_2) ∧ w60.cell? ⟨gb481, 3, none⟩ = some (.slice A1_3 l1_3.length c1_3) ∧ w60.cell? ⟨gb482, 0, none⟩ = some (.int .i64 a2_0) ∧ w60.cell? ⟨gb482, 1, none⟩ = some (.int .i64 a2_1) ∧ w60.cell? ⟨gb482, 2, none⟩ = some (.int .i64 a2_2) := hS_
    obtain ⟨Ao61, co61, eo61⟩ := Kd.R_slice HO489.out
    (first | subst eo61 | (injection eo61 with f1_ f2_ f3_; have f4_ := f1_.symm; have f5_ := f3_.symm; clear f1_ f2_ f3_; subst f4_; subst f5_))
    obtain ⟨Ao62, co62, eo62⟩ := Kd.R_slice HO495.out
    (first | subst eo62 | (injection eo62 with f1_ f2_ f3_; have f4_ := f1_.symm; have f5_ := f3_.symm; clear f1_ f2_ f3_; subst f4_; subst f5_))
    refine norm_ (a' := ?_) ?_ ?_
    rotate_left
    ·simp only [putAll, Act.put, lstS, lstZ, lstC]
     rfl
    refine tw_ HT_ 7 11 (some 37) (some 10) (bv_ 14 255) (bv_ 14 2175) (fun K hK => ?_) (fun K hK => ?_)
    ·skip
     refine gs_ Try.func20 #[.int .i64 a0, .agg #[.int .i64 t484, .int .i64 t485, .int .i64 t486, .slice Ao61 t487.length co61], .agg #[.int .i64 t490, .int .i64 t491, .int .i64 t492], .slice Ao62 t493.length co62] ?_
     with_reducible refine (spec_RefineAt.calls k a0 t484 t485 t486 _ _ t487 t490 t491 t492 _ _ t493 t496 t497 t498 t499 t502 _ ?side1 ?side2 ?side3 ?side4 A18.out).mono ?_
     (case side1 => exact ca_ (Kd.R_reads' HO489.out).2.2)
     (case side2 => exact (Kd.R_reads' HO489.out).2.1)
     (case side3 => exact ca_ (Kd.R_reads' HO495.out).2.2)
     (case side4 => exact (Kd.R_reads' HO495.out).2.1)
     rintro e w63 ⟨v500, rfl, ho0, hb⟩
     refine ⟨_, rfl, ?_⟩
     have HO501 := Aside0.mk (Kd.R_lower (Kd.R_new' ho0 (Kd.R_lt (ra_ HO489.out))) (below_size (bw_ HB).out))
     replace HO489 := Aside0.mk (Kd.R_elder' (ra_ HO489.out) (Kd.R_base ho0) hb)
     replace HO495 := rb_ HO495 hb
     replace BK481 := bb_ BK481 hb
     replace BK482 := bb_ BK482 hb
     replace HB := bt_ HB hb
     try clear hb
     (try clear ho0)
     refine hK.out _ _ ⟨cz_ BK481 0, cz_ BK481 1, cz_ BK481 2, cz_ BK481 3, cz_ BK482 0, cz_ BK482 1, cz_ BK482 2⟩ (fun hHeld => ?_)
     clear hK K
     refine nm_ (some 37) ?_
     refine px_ HT_ 8 29 511 ?_
     refine px_ HT_ 9 38 1023 ?_
     refine px_ HT_ 10 39 2047 ?_
     exact norm_ (by first | (simp only [putAll, Act.put, lstS, lstZ, lstC]; done) | (simp only [putAll, Act.put, lstS, lstZ, lstC]; rfl)) (hJ2_4_6_7 (.slice Ao61 t487.length co61, .slice Ao62 t493.length co62, v500) _ ⟨hHeld, (by (with_reducible repeat (first | apply Kd.R_alloc | apply Kd.R_drewN | apply Kd.R_drew)); exact Kd.R_mono HO489.out (fun _ hk => hk.2)), (ra_ HO495.out), (by (with_reducible repeat (first | apply Kd.R_alloc | apply Kd.R_drewN | apply Kd.R_drew)); exact Kd.R_mono HO501.out (fun _ hk => hk.2)), (bl_ BK481).out, (bl_ BK482).out, (bw_ HB).out⟩)
    skip
    refine bz_ 10 #[.int .i64 0, .int .i64 0, .int .i64 0, .slice none 0 0] 34 ?_
    intro gb503 hg w61 BK503 hb
    have GW503 := bs_ HB hg
    have NB481_503 := bm_ BK481 hg
    have NB503_481 := bn_ BK481 hg
    have NB482_503 := bm_ BK482 hg
    have NB503_482 := bn_ BK482 hg
    replace HO489 := rb_ HO489 hb
    replace HO495 := rb_ HO495 hb
    replace BK481 := bb_ BK481 hb
    replace BK482 := bb_ BK482 hb
    replace HB := bt_ HB hb
    clear hb hg
    refine hK.out _ _ ⟨cz_ BK481 0, cz_ BK481 1, cz_ BK481 2, cz_ BK481 3, cz_ BK482 0, cz_ BK482 1, cz_ BK482 2⟩ (fun hHeld => ?_)
    clear hK K
    refine nm_ (some 10) ?_
    exact norm_ (by first | (simp only [putAll, Act.put, lstS, lstZ, lstC]; done) | (simp only [putAll, Act.put, lstS, lstZ, lstC]; rfl)) (hJ2_4_6_11 (.slice Ao61 t487.length co61, .slice Ao62 t493.length co62, gb503) _ ⟨hHeld, (ra_ HO489.out), (ra_ HO495.out), (bl_ BK481).out, (bl_ BK482).out, (bl_ BK503).out, GW503.out, GW503.out, NB481_503.out, NB503_481.out, NB482_503.out, NB503_482.out, (bw_ HB).out⟩)
   skip
   rintro ⟨v488, v494, gb503⟩ w61 ⟨hS_, h0_, h1_, h2_, h3_, h4_, h5_, h6_, h7_, h8_, h9_, h10_, h11_⟩
   clear BK481 BK482 HB
   have HO489 := Aside0.mk h0_
   have HO495 := Aside0.mk h1_
   have BK481 := Aside0.mk h2_
   have BK482 := Aside0.mk h3_
   have BK503 := Aside0.mk h4_
   have GW503 := Aside0.mk h5_
   have GW503 := Aside0.mk h6_
   have NB481_503 := Aside0.mk h7_
   have NB503_481 := Aside0.mk h8_
   have NB482_503 := Aside0.mk h9_
   have NB503_482 := Aside0.mk h10_
   have HB := Aside0.mk h11_
   clear h0_ h1_ h2_ h3_ h4_ h5_ h6_ h7_ h8_ h9_ h10_ h11_
   have hHeld : w61.cell? ⟨gb481, 0, none⟩ = some (.int .i64 a1_0) ∧ w61.cell? ⟨gb481, 1, none⟩ = some (.int .i64 a1_1) ∧ w61.cell? ⟨gb481, 2, none⟩ = some (.int .i64 a1_2) ∧ w61.cell? ⟨gb481, 3, none⟩ = some (.slice A1_3 l1_3.length c1_3) ∧ w61.cell? ⟨gb482, 0, none⟩ = some (.int .i64 a2_0) ∧ w61.cell? ⟨gb482, 1, none⟩ = some (.int .i64 a2_1) ∧ w61.cell? ⟨gb482, 2, none⟩ = some (.int .i64 a2_2) := hS_
   obtain ⟨Ao62, co62, eo62⟩ := Kd.R_slice HO489.out
   (first | subst eo62 | (injection eo62 with f1_ f2_ f3_; have f4_ := f1_.symm; have f5_ := f3_.symm; clear f1_ f2_ f3_; subst f4_; subst f5_))
   obtain ⟨Ao63, co63, eo63⟩ := Kd.R_slice HO495.out
   (first | subst eo63 | (injection eo63 with f1_ f2_ f3_; have f4_ := f1_.symm; have f5_ := f3_.symm; clear f1_ f2_ f3_; subst f4_; subst f5_))
   refine norm_ (a' := ?_) ?_ ?_
   rotate_left
   ·simp only [putAll, Act.put, lstS, lstZ, lstC]
    rfl
   refine on_ HT_ 7 (some 37) (bv_ 14 2303) (fun K hK => ?_)
   refine gs_ Try.func20 #[.int .i64 a0, .agg #[.int .i64 t484, .int .i64 t485, .int .i64 t486, .slice Ao62 t487.length co62], .agg #[.int .i64 t490, .int .i64 t491, .int .i64 t492], .slice Ao63 t493.length co63] ?_
   with_reducible refine (spec_RefineAt.calls k a0 t484 t485 t486 _ _ t487 t490 t491 t492 _ _ t493 t496 t497 t498 t499 t502 _ ?side1 ?side2 ?side3 ?side4 A18.out).mono ?_
   (case side1 => exact ca_ (Kd.R_reads' HO489.out).2.2)
   (case side2 => exact (Kd.R_reads' HO489.out).2.1)
   (case side3 => exact ca_ (Kd.R_reads' HO495.out).2.2)
   (case side4 => exact (Kd.R_reads' HO495.out).2.1)
   rintro e w64 ⟨v500, rfl, ho0, hb⟩
   refine ⟨_, rfl, ?_⟩
   have HO501 := Aside0.mk (Kd.R_lower (Kd.R_new' ho0 (Kd.R_lt (ra_ HO489.out))) (below_size (bw_ HB).out))
   replace HO489 := Aside0.mk (Kd.R_elder' (ra_ HO489.out) (Kd.R_base ho0) hb)
   replace HO495 := rb_ HO495 hb
   replace BK481 := bb_ BK481 hb
   replace BK482 := bb_ BK482 hb
   replace BK503 := bb_ BK503 hb
   replace HB := bt_ HB hb
   try clear hb
   (try clear ho0)
   refine hK.out _ _ ⟨cz_ BK481 0, cz_ BK481 1, cz_ BK481 2, cz_ BK481 3, cz_ BK482 0, cz_ BK482 1, cz_ BK482 2⟩ (fun hHeld => ?_)
   clear hK K
   refine nm_ (some 37) ?_
   refine px_ HT_ 8 29 2559 ?_
   refine px_ HT_ 9 38 3071 ?_
   refine px_ HT_ 10 39 4095 ?_
   exact norm_ (by first | (simp only [putAll, Act.put, lstS, lstZ, lstC]; done) | (simp only [putAll, Act.put, lstS, lstZ, lstC]; rfl)) (hJ2_4_6_7_11 (.slice Ao62 t487.length co62, .slice Ao63 t493.length co63, v500, gb503) _ ⟨hHeld, (by (with_reducible repeat (first | apply Kd.R_alloc | apply Kd.R_drewN | apply Kd.R_drew)); exact Kd.R_mono HO489.out (fun _ hk => hk.2)), (ra_ HO495.out), (by (with_reducible repeat (first | apply Kd.R_alloc | apply Kd.R_drewN | apply Kd.R_drew)); exact Kd.R_mono HO501.out (fun _ hk => hk.2)), (bl_ BK481).out, (bl_ BK482).out, (bl_ BK503).out, GW503.out, GW503.out, NB481_503.out, NB503_481.out, NB482_503.out, NB503_482.out, (bw_ HB).out⟩)
  skip
  rintro ⟨v488, v494, v500⟩ w63 ⟨hS_, h0_, h1_, h2_, h3_, h4_, h5_⟩
  clear BK481 BK482 HB
  have HO489 := Aside0.mk h0_
  have HO495 := Aside0.mk h1_
  have HO501 := Aside0.mk h2_
  have BK481 := Aside0.mk h3_
  have BK482 := Aside0.mk h4_
  have HB := Aside0.mk h5_
  clear h0_ h1_ h2_ h3_ h4_ h5_
  have hHeld : w63.cell? ⟨gb481, 0, none⟩ = some (.int .i64 a1_0) ∧ w63.cell? ⟨gb481, 1, none⟩ = some (.int .i64 a1_1) ∧ w63.cell? ⟨gb481, 2, none⟩ = some (.int .i64 a1_2) ∧ w63.cell? ⟨gb481, 3, none⟩ = some (.slice A1_3 l1_3.length c1_3) ∧ w63.cell? ⟨gb482, 0, none⟩ = some (.int .i64 a2_0) ∧ w63.cell? ⟨gb482, 1, none⟩ = some (.int .i64 a2_1) ∧ w63.cell? ⟨gb482, 2, none⟩ = some (.int .i64 a2_2) := hS_
  refine norm_ (a' := ?_) ?_ ?_
  rotate_left
  ·simp only [putAll, Act.put, lstS, lstZ, lstC]
   rfl
  refine on_ HT_ 11 (some 10) (bv_ 14 4095) (fun K hK => ?_)
  refine bz_ 10 #[.int .i64 0, .int .i64 0, .int .i64 0, .slice none 0 0] 34 ?_
  intro gb503 hg w64 BK503 hb
  have GW503 := bs_ HB hg
  have NB481_503 := bm_ BK481 hg
  have NB503_481 := bn_ BK481 hg
  have NB482_503 := bm_ BK482 hg
  have NB503_482 := bn_ BK482 hg
  replace HO489 := rb_ HO489 hb
  replace HO495 := rb_ HO495 hb
  replace HO501 := rb_ HO501 hb
  replace BK481 := bb_ BK481 hb
  replace BK482 := bb_ BK482 hb
  replace HB := bt_ HB hb
  clear hb hg
  refine hK.out _ _ ⟨cz_ BK481 0, cz_ BK481 1, cz_ BK481 2, cz_ BK481 3, cz_ BK482 0, cz_ BK482 1, cz_ BK482 2⟩ (fun hHeld => ?_)
  clear hK K
  refine nm_ (some 10) ?_
  exact norm_ (by first | (simp only [putAll, Act.put, lstS, lstZ, lstC]; done) | (simp only [putAll, Act.put, lstS, lstZ, lstC]; rfl)) (hJ2_4_6_7_11 (v488, v494, v500, gb503) _ ⟨hHeld, (ra_ HO489.out), (ra_ HO495.out), (ra_ HO501.out), (bl_ BK481).out, (bl_ BK482).out, (bl_ BK503).out, GW503.out, GW503.out, NB481_503.out, NB503_481.out, NB482_503.out, NB503_482.out, (bw_ HB).out⟩)
 rintro ⟨v488, v494, v500, gb503⟩ w64 ⟨hS_, h0_, h1_, h2_, h3_, h4_, h5_, h6_, h7_, h8_, h9_, h10_, h11_, h12_⟩
 clear BK481 BK482 HB
 have HO489 := Aside0.mk h0_
 have HO495 := Aside0.mk h1_
 have HO501 := Aside0.mk h2_
 have BK481 := Aside0.mk h3_
 have BK482 := Aside0.mk h4_
 have BK503 := Aside0.mk h5_
 have GW503 := Aside0.mk h6_
 have GW503 := Aside0.mk h7_
 have NB481_503 := Aside0.mk h8_
 have NB503_481 := Aside0.mk h9_
 have NB482_503 := Aside0.mk h10_
 have NB503_482 := Aside0.mk h11_
 have HB := Aside0.mk h12_
 clear h0_ h1_ h2_ h3_ h4_ h5_ h6_ h7_ h8_ h9_ h10_ h11_ h12_
 have hHeld : w64.cell? ⟨gb481, 0, none⟩ = some (.int .i64 a1_0) ∧ w64.cell? ⟨gb481, 1, none⟩ = some (.int .i64 a1_1) ∧ w64.cell? ⟨gb481, 2, none⟩ = some (.int .i64 a1_2) ∧ w64.cell? ⟨gb481, 3, none⟩ = some (.slice A1_3 l1_3.length c1_3) ∧ w64.cell? ⟨gb482, 0, none⟩ = some (.int .i64 a2_0) ∧ w64.cell? ⟨gb482, 1, none⟩ = some (.int .i64 a2_1) ∧ w64.cell? ⟨gb482, 2, none⟩ = some (.int .i64 a2_2) := hS_
 obtain ⟨Ao68, co68, eo68⟩ := Kd.R_slice HO501.out
 (first | subst eo68 | (injection eo68 with f1_ f2_ f3_; have f4_ := f1_.symm; have f5_ := f3_.symm; clear f1_ f2_ f3_; subst f4_; subst f5_))
 refine norm_ (a' := ?_) ?_ ?_
 rotate_left
 ·simp only [putAll, Act.put, lstS, lstZ, lstC]
  rfl
 refine on_ HT_ 12 none (bv_ 14 8191) (fun K hK => ?_)
 have hs65 : w64.cell? ⟨gb503, 0, none⟩ = some (.int .i64 0) := (blk_cell BK503.out 0).trans rfl
 have hfs65 := blk_frozen BK503.out 0
 have hns65_0 := NB481_503.out
 have hns65_1 := NB482_503.out
 have hms65_0 := NB503_481.out
 have hms65_1 := NB503_482.out
 have hs66 : w64.cell? ⟨gb503, 1, none⟩ = some (.int .i64 0) := (blk_cell BK503.out 1).trans rfl
 have hfs66 := blk_frozen BK503.out 1
 have hns66_0 := NB481_503.out
 have hns66_1 := NB482_503.out
 have hms66_0 := NB503_481.out
 have hms66_1 := NB503_482.out
 have hs67 : w64.cell? ⟨gb503, 2, none⟩ = some (.int .i64 0) := (blk_cell BK503.out 2).trans rfl
 have hfs67 := blk_frozen BK503.out 2
 have hns67_0 := NB481_503.out
 have hns67_1 := NB482_503.out
 have hms67_0 := NB503_481.out
 have hms67_1 := NB503_482.out
 have hs69 : w64.cell? ⟨gb503, 3, none⟩ = some (.slice none 0 0) := (blk_cell BK503.out 3).trans rfl
 have hfs69 := blk_frozen BK503.out 3
 have hns69_0 := NB481_503.out
 have hns69_1 := NB482_503.out
 have hms69_0 := NB503_481.out
 have hms69_1 := NB503_482.out
 refine skip_ (w1 := ?_) (by rfl) rfl ?_ ?_
 rotate_left
 ·go_simp
  rfl
 refine hK.out _ _ ⟨(cg_ NB481_503 ((cg_ NB481_503 ((cg_ NB481_503 ((cg_ NB481_503 (hHeld.1)))))))), (cg_ NB481_503 ((cg_ NB481_503 ((cg_ NB481_503 ((cg_ NB481_503 (hHeld.2.1)))))))), (cg_ NB481_503 ((cg_ NB481_503 ((cg_ NB481_503 ((cg_ NB481_503 (hHeld.2.2.1)))))))), (cg_ NB481_503 ((cg_ NB481_503 ((cg_ NB481_503 ((cg_ NB481_503 (hHeld.2.2.2.1)))))))), (cg_ NB482_503 ((cg_ NB482_503 ((cg_ NB482_503 ((cg_ NB482_503 (hHeld.2.2.2.2.1)))))))), (cg_ NB482_503 ((cg_ NB482_503 ((cg_ NB482_503 ((cg_ NB482_503 (hHeld.2.2.2.2.2.1)))))))), (cg_ NB482_503 ((cg_ NB482_503 ((cg_ NB482_503 ((cg_ NB482_503 (hHeld.2.2.2.2.2.2))))))))⟩ (fun hHeld => ?_)
 clear hK K
 refine px_ HT_ 13 11 16383 ?_
 refine done_ (done_of HT_.out (by kernel_rfl)) ?_
 have hnb70 := NB481_503.out
 have hnc70 := NB503_481.out
 obtain ⟨hcz71_0, hcz71_1, hcz71_2, hcz71_3, hfz71_0, hfz71_1, hfz71_2, hfz71_3⟩ := ch4_ BK481
 try go_wp2_with (first | ((refine gc_ 9 ?_); refine ge_ 41 Try.func9 #[.agg #[.int .i64 a1_0, .int .i64 a1_1, .int .i64 a1_2, .slice A1_3 l1_3.length c1_3]] ?_; (with_reducible refine (laws_toMeasure.calls k a1_0 a1_1 a1_2 _ _ l1_3 t504 t505 t506 t507 _ ?side1 ?side2 A19.out).mono ?_); (case side1 => exact Kd.C_below HR1_3.out (bw_ HB).out); (case side2 => exact HC1_3.out); rintro e w72 ⟨v508, rfl, ho0, hb⟩; refine ⟨_, rfl, ?_⟩; have HO509 := Aside0.mk (Kd.R_lower (Kd.R_new' (Kd.R_new' ho0 (Kd.R_lt (ra_ (rs4_ HO489.out BK503.out)))) (Kd.R_lt (ra_ (rs4_ HO501.out BK503.out)))) (below_size (bw_ HB).out)); replace HO489 := Aside0.mk (Kd.R_elder' (ra_ (rs4_ HO489.out BK503.out)) (Kd.R_base ho0) hb); replace HO495 := Aside0.mk (Kd.R_below (ra_ (rs4_ HO495.out BK503.out)) hb); replace HO501 := Aside0.mk (Kd.R_elder' (ra_ (rs4_ HO501.out BK503.out)) (Kd.R_base ho0) hb); replace BK481 := fb_ BK481 NB481_503 hb; replace BK482 := fb_ BK482 NB482_503 hb; replace BK503 := Aside0.mk (blk_below (g := gb503) (o := .cells #[.int .i64 t496, .int .i64 t497, .int .i64 t498, .slice Ao68 t499.length co68] 34 (0, 0)) (bp_ BK503).out hb); replace HB := bt_ HB hb; (try clear hb); (try clear ho0)) | ((refine gd_ 12 ?_); refine bx_ 12 #[.int .i64 0, .int .i64 0, .int .i64 0, .slice none 0 0] 34 ?_; intro gb510 hg w73 BK510 hb; have GW510 := bs_ HB hg; have NB481_510 := bm_ BK481 hg; have NB510_481 := bn_ BK481 hg; have NB482_510 := bm_ BK482 hg; have NB510_482 := bn_ BK482 hg; have NB503_510 := bm_ BK503 hg; have NB510_503 := bn_ BK503 hg; replace HO489 := rb_ HO489 hb; replace HO495 := rb_ HO495 hb; replace HO501 := rb_ HO501 hb; replace HO509 := rb_ HO509 hb; replace BK481 := bb_ BK481 hb; replace BK482 := bb_ BK482 hb; replace BK503 := bb_ BK503 hb; replace HB := bt_ HB hb; clear hb hg; have hnb74 := NB510_481.out; have hnc74 := NB481_510.out; have hnb75 := NB510_482.out; have hnc75 := NB482_510.out; have hnb76 := NB510_503.out; have hnc76 := NB503_510.out; obtain ⟨hcz77_0, hcz77_1, hcz77_2, hcz77_3, hfz77_0, hfz77_1, hfz77_2, hfz77_3⟩ := ch4_ BK510; obtain ⟨Ao78, co78, eo78⟩ := Kd.R_slice HO509.out; subst eo78) | ((refine gc_ 21 ?_); refine ge_ 43 Try.func21 #[.slice A3 l3.length c3] ?_; (with_reducible refine (laws_toInt64S.calls k _ _ l3 t511 _ ?side1 ?side2 A20.out).mono ?_); (case side1 => exact Kd.C_below HR3.out (bw_ HB).out); (case side2 => exact HC3.out); rintro e w79 ⟨v512, rfl, ho0, hb⟩; refine ⟨_, rfl, ?_⟩; have HO513 := Aside0.mk (Kd.R_lower (Kd.R_new' ho0 (Kd.R_lt (ra_ (rs4_ HO495.out BK510.out)))) (below_size (bw_ HB).out)); replace HO489 := Aside0.mk (Kd.R_below (ra_ (rs4_ HO489.out BK510.out)) hb); replace HO495 := Aside0.mk (Kd.R_elder' (ra_ (rs4_ HO495.out BK510.out)) (Kd.R_base ho0) hb); replace HO501 := Aside0.mk (Kd.R_below (ra_ (rs4_ HO501.out BK510.out)) hb); replace HO509 := Aside0.mk (Kd.R_below (ra_ (rs4_ HO509.out BK510.out)) hb); replace BK481 := fb_ BK481 NB481_510 hb; replace BK482 := fb_ BK482 NB482_510 hb; replace BK503 := fb_ BK503 NB503_510 hb; replace BK510 := Aside0.mk (blk_below (g := gb510) (o := .cells #[.int .i64 t504, .int .i64 t505, .int .i64 t506, .slice Ao78 t507.length co78] 34 (0, 0)) (bp_ BK510).out hb); replace HB := bt_ HB hb; (try clear hb); (try clear ho0); obtain ⟨Ao80, co80, eo80⟩ := Kd.R_slice HO513.out; subst eo80))
 replace HO489 := Aside0.mk (Kd.R_drew HO489.out)
 replace HO495 := Aside0.mk (Kd.R_drew HO495.out)
 replace HO501 := Aside0.mk (Kd.R_drew HO501.out)
 replace HO509 := Aside0.mk (Kd.R_drew HO509.out)
 replace HO513 := Aside0.mk (Kd.R_drew HO513.out)
 replace BK481 := bd_ BK481
 replace BK482 := bd_ BK482
 replace BK503 := bd_ BK503
 replace BK510 := bd_ BK510
 replace HB := be_ HB
 refine start_ (n := 12) (S := fun w' => w'.cell? ⟨gb510, 0, none⟩ = some (.int .i64 t504) ∧ w'.cell? ⟨gb510, 1, none⟩ = some (.int .i64 t505) ∧ w'.cell? ⟨gb510, 2, none⟩ = some (.int .i64 t506) ∧ w'.cell? ⟨gb510, 3, none⟩ = some (.slice Ao78 t507.length co78) ∧ w'.cell? ⟨gb482, 0, none⟩ = some (.int .i64 a2_0) ∧ w'.cell? ⟨gb482, 1, none⟩ = some (.int .i64 a2_1) ∧ w'.cell? ⟨gb482, 2, none⟩ = some (.int .i64 a2_2)) (ds := []) (bv_ 12 0) (by kernel_rfl) rfl rfl ⟨cz_ BK510 0, cz_ BK510 1, cz_ BK510 2, cz_ BK510 3, cz_ BK482 0, cz_ BK482 1, cz_ BK482 2⟩ (fun hHeld => ?_); refine with_tabW laws_FnExactRefineAt.tab10 laws_FnExactRefineAt.bits10 (fun HT_ HW_ => ?_)
 generalize w79.drew = w81 at HO489 HO495 HO501 HO509 HO513 BK481 BK482 BK503 BK510 HB hHeld ⊢
 refine px_ HT_ 0 45 1 ?_
 refine px_ HT_ 4 49 17 ?_
 refine ta_ HT_ HW_ 1 (some 46) (bv_ 12 19) hHeld ?_ (hy := by rintro w' ⟨s0, s1, s2, s3, s4, s5, s6⟩; go_simp; with_reducible rfl)
 refine ta_ HT_ HW_ 2 (some 47) (bv_ 12 23) hHeld ?_ (hy := by rintro w' ⟨s0, s1, s2, s3, s4, s5, s6⟩; go_simp; with_reducible rfl)
 refine join_ (σ := Value × Nat) 2 (bv_ 12 1023) (fun s_ => [(48, .agg #[.int .i64 t514, .int .i64 t515, .int .i64 t516]), (50, .tuple #[.agg #[.int .i64 t517, .int .i64 t518, .int .i64 t519, s_.1], .int .i64 t523]), (14, .pointer (some ⟨s_.2, 0, none⟩)), (44, .tuple #[.agg #[.int .i64 t517, .int .i64 t518, .int .i64 t519, s_.1], .int .i64 t523]), (51, .agg #[.int .i64 t517, .int .i64 t518, .int .i64 t519, s_.1]), (52, .int .i64 t523)]) (fun s_ w' => (w'.cell? ⟨gb510, 0, none⟩ = some (.int .i64 t504) ∧ w'.cell? ⟨gb510, 1, none⟩ = some (.int .i64 t505) ∧ w'.cell? ⟨gb510, 2, none⟩ = some (.int .i64 t506) ∧ w'.cell? ⟨gb510, 3, none⟩ = some (.slice Ao78 t507.length co78) ∧ w'.cell? ⟨gb482, 0, none⟩ = some (.int .i64 a2_0) ∧ w'.cell? ⟨gb482, 1, none⟩ = some (.int .i64 a2_1) ∧ w'.cell? ⟨gb482, 2, none⟩ = some (.int .i64 a2_2)) ∧ (Kd.R k72 72 w' w.heap.size (fun k_ => some k_ ≠ (.slice Ao68 t499.length co68 : Value).ownBlock ∧ some k_ ≠ (.slice Ao78 t507.length co78 : Value).ownBlock ∧ some k_ ≠ (s_.1 : Value).ownBlock) v488 t487) ∧ (Kd.R (Kd.int .i64) 2 w' w.heap.size (fun k_ => some k_ ≠ (.slice Ao80 t511.length co80 : Value).ownBlock) v494 t493) ∧ (Kd.R k72 72 w' w.heap.size (fun k_ => some k_ ≠ (v488 : Value).ownBlock ∧ some k_ ≠ (.slice Ao78 t507.length co78 : Value).ownBlock ∧ some k_ ≠ (s_.1 : Value).ownBlock) (.slice Ao68 t499.length co68) t499) ∧ (Kd.R k72 72 w' w.heap.size (fun k_ => some k_ ≠ (v488 : Value).ownBlock ∧ some k_ ≠ (.slice Ao68 t499.length co68 : Value).ownBlock ∧ some k_ ≠ (s_.1 : Value).ownBlock) (.slice Ao78 t507.length co78) t507) ∧ (Kd.R (Kd.int .i64) 2 w' w.heap.size (fun k_ => some k_ ≠ (v494 : Value).ownBlock) (.slice Ao80 t511.length co80) t511) ∧ (Kd.R k72 72 w' w.heap.size (fun k_ => some k_ ≠ (v488 : Value).ownBlock ∧ some k_ ≠ (.slice Ao68 t499.length co68 : Value).ownBlock ∧ some k_ ≠ (.slice Ao78 t507.length co78 : Value).ownBlock) s_.1 t520) ∧ (w'.heap[gb481]? = some (.cells #[.int .i64 a1_0, .int .i64 a1_1, .int .i64 a1_2, .slice A1_3 l1_3.length c1_3] 26 (0, 0))) ∧ (w'.heap[gb482]? = some (.cells #[.int .i64 a2_0, .int .i64 a2_1, .int .i64 a2_2] 23 (0, 0))) ∧ (w'.heap[gb503]? = some (.cells #[.int .i64 t496, .int .i64 t497, .int .i64 t498, .slice Ao68 t499.length co68] 34 (0, 0))) ∧ (w'.heap[gb510]? = some (.cells #[.int .i64 t504, .int .i64 t505, .int .i64 t506, .slice Ao78 t507.length co78] 34 (0, 0))) ∧ (w'.heap[s_.2]? = some (.cells #[.int .i64 0, .int .i64 0, .int .i64 0, .slice none 0 0] 34 (0, 0))) ∧ (w.heap.size ≤ s_.2) ∧ (w.heap.size ≤ s_.2) ∧ (gb481 ≠ s_.2) ∧ (s_.2 ≠ gb481) ∧ (gb482 ≠ s_.2) ∧ (s_.2 ≠ gb482) ∧ (gb503 ≠ s_.2) ∧ (s_.2 ≠ gb503) ∧ (gb510 ≠ s_.2) ∧ (s_.2 ≠ gb510) ∧ (Below w.heap.size w w')) ?_ ?_
 rotate_left
 ·intro hCont
  refine tw_ HT_ 3 9 (some 48) (some 14) (bv_ 12 31) (bv_ 12 535) (fun K hK => ?_) (fun K hK => ?_)
  ·skip
   refine gs_ Try.func17 #[.agg #[.int .i64 a2_0, .int .i64 a2_1, .int .i64 a2_2]] ?_
   with_reducible refine (laws_toBall.calls a2_0 a2_1 a2_2 t514 t515 t516 _ A21.out).mono ?_
   rintro e w82 ⟨rfl, hb⟩
   refine ⟨_, rfl, ?_⟩
   replace HO489 := rb_ HO489 hb
   replace HO495 := rb_ HO495 hb
   replace HO501 := rb_ HO501 hb
   replace HO509 := rb_ HO509 hb
   replace HO513 := rb_ HO513 hb
   replace BK481 := bb_ BK481 hb
   replace BK482 := bb_ BK482 hb
   replace BK503 := bb_ BK503 hb
   replace BK510 := bb_ BK510 hb
   replace HB := bt_ HB hb
   try clear hb
   refine hK.out _ _ ⟨cz_ BK510 0, cz_ BK510 1, cz_ BK510 2, cz_ BK510 3, cz_ BK482 0, cz_ BK482 1, cz_ BK482 2⟩ (fun hHeld => ?_)
   clear hK K
   refine nm_ (some 48) ?_
   refine tw_ HT_ 5 9 (some 50) (some 14) (bv_ 12 63) (bv_ 12 543) (fun K hK => ?_) (fun K hK => ?_)
   ·skip
    refine gs_ Try.func22 #[.int .i64 a0, .agg #[.int .i64 t504, .int .i64 t505, .int .i64 t506, .slice Ao78 t507.length co78], .agg #[.int .i64 t514, .int .i64 t515, .int .i64 t516], .slice Ao80 t511.length co80] ?_
    with_reducible refine (impl_RefineAt.calls k a0 t504 t505 t506 _ _ t507 t514 t515 t516 _ _ t511 t517 t518 t519 t520 t523 _ ?side1 ?side2 ?side3 ?side4 A22.out).mono ?_
    (case side1 => exact ca_ (Kd.R_reads' HO509.out).2.2)
    (case side2 => exact (Kd.R_reads' HO509.out).2.1)
    (case side3 => exact ca_ (Kd.R_reads' HO513.out).2.2)
    (case side4 => exact (Kd.R_reads' HO513.out).2.1)
    rintro e w83 ⟨v521, rfl, ho0, hb⟩
    refine ⟨_, rfl, ?_⟩
    have HO522 := Aside0.mk (Kd.R_lower (Kd.R_new' (Kd.R_new' (Kd.R_new' ho0 (Kd.R_lt (ra_ HO489.out))) (Kd.R_lt (ra_ HO501.out))) (Kd.R_lt (ra_ HO509.out))) (below_size (bw_ HB).out))
    replace HO489 := Aside0.mk (Kd.R_elder' (ra_ HO489.out) (Kd.R_base ho0) hb)
    replace HO495 := rb_ HO495 hb
    replace HO501 := Aside0.mk (Kd.R_elder' (ra_ HO501.out) (Kd.R_base ho0) hb)
    replace HO509 := Aside0.mk (Kd.R_elder' (ra_ HO509.out) (Kd.R_base ho0) hb)
    replace HO513 := rb_ HO513 hb
    replace BK481 := bb_ BK481 hb
    replace BK482 := bb_ BK482 hb
    replace BK503 := bb_ BK503 hb
    replace BK510 := bb_ BK510 hb
    replace HB := bt_ HB hb
    try clear hb
    (try clear ho0)
    refine hK.out _ _ ⟨cz_ BK510 0, cz_ BK510 1, cz_ BK510 2, cz_ BK510 3, cz_ BK482 0, cz_ BK482 1, cz_ BK482 2⟩ (fun hHeld => ?_)
    clear hK K
    refine nm_ (some 50) ?_
    refine px_ HT_ 6 44 127 ?_
    refine px_ HT_ 7 51 255 ?_
    refine px_ HT_ 8 52 511 ?_
    refine on_ HT_ 9 (some 14) (bv_ 12 1023) (fun K hK => ?_)
    refine bz_ 14 #[.int .i64 0, .int .i64 0, .int .i64 0, .slice none 0 0] 34 ?_
    intro gb524 hg w84 BK524 hb
    have GW524 := bs_ HB hg
    have NB481_524 := bm_ BK481 hg
    have NB524_481 := bn_ BK481 hg
    have NB482_524 := bm_ BK482 hg
    have NB524_482 := bn_ BK482 hg
    have NB503_524 := bm_ BK503 hg
    have NB524_503 := bn_ BK503 hg
    have NB510_524 := bm_ BK510 hg
    have NB524_510 := bn_ BK510 hg
    replace HO489 := rb_ HO489 hb
    replace HO495 := rb_ HO495 hb
    replace HO501 := rb_ HO501 hb
    replace HO509 := rb_ HO509 hb
    replace HO513 := rb_ HO513 hb
    replace HO522 := rb_ HO522 hb
    replace BK481 := bb_ BK481 hb
    replace BK482 := bb_ BK482 hb
    replace BK503 := bb_ BK503 hb
    replace BK510 := bb_ BK510 hb
    replace HB := bt_ HB hb
    clear hb hg
    refine hK.out _ _ ⟨cz_ BK510 0, cz_ BK510 1, cz_ BK510 2, cz_ BK510 3, cz_ BK482 0, cz_ BK482 1, cz_ BK482 2⟩ (fun hHeld => ?_)
    clear hK K
    refine nm_ (some 14) ?_
    exact norm_ (by simp only [putAll, Act.put, lstS, lstZ, lstC]) (hCont (v521, gb524) _ ⟨hHeld, (by (with_reducible repeat (first | apply Kd.R_alloc | apply Kd.R_drewN | apply Kd.R_drew)); exact Kd.R_mono HO489.out (fun _ hk => ⟨hk.1.1, ⟨hk.1.2, hk.2⟩⟩)), (by (with_reducible repeat (first | apply Kd.R_alloc | apply Kd.R_drewN | apply Kd.R_drew)); exact Kd.R_mono HO495.out (fun _ hk => hk.2)), (by (with_reducible repeat (first | apply Kd.R_alloc | apply Kd.R_drewN | apply Kd.R_drew)); exact Kd.R_mono HO501.out (fun _ hk => ⟨hk.1.1, ⟨hk.1.2, hk.2⟩⟩)), (by (with_reducible repeat (first | apply Kd.R_alloc | apply Kd.R_drewN | apply Kd.R_drew)); exact Kd.R_mono HO509.out (fun _ hk => ⟨hk.1.1.2, ⟨hk.1.2, hk.2⟩⟩)), (by (with_reducible repeat (first | apply Kd.R_alloc | apply Kd.R_drewN | apply Kd.R_drew)); exact Kd.R_mono HO513.out (fun _ hk => hk.2)), (by (with_reducible repeat (first | apply Kd.R_alloc | apply Kd.R_drewN | apply Kd.R_drew)); exact Kd.R_mono HO522.out (fun _ hk => ⟨hk.1.1.2, ⟨hk.1.2, hk.2⟩⟩)), (bl_ BK481).out, (bl_ BK482).out, (bl_ BK503).out, (bl_ BK510).out, (bl_ BK524).out, GW524.out, GW524.out, NB481_524.out, NB524_481.out, NB482_524.out, NB524_482.out, NB503_524.out, NB524_503.out, NB510_524.out, NB524_510.out, (bw_ HB).out⟩)
   skip
   refine bz_ 14 #[.int .i64 0, .int .i64 0, .int .i64 0, .slice none 0 0] 34 ?_
   intro gb524 hg w83 BK524 hb
   have GW524 := bs_ HB hg
   have NB481_524 := bm_ BK481 hg
   have NB524_481 := bn_ BK481 hg
   have NB482_524 := bm_ BK482 hg
   have NB524_482 := bn_ BK482 hg
   have NB503_524 := bm_ BK503 hg
   have NB524_503 := bn_ BK503 hg
   have NB510_524 := bm_ BK510 hg
   have NB524_510 := bn_ BK510 hg
   replace HO489 := rb_ HO489 hb
   replace HO495 := rb_ HO495 hb
   replace HO501 := rb_ HO501 hb
   replace HO509 := rb_ HO509 hb
   replace HO513 := rb_ HO513 hb
   replace BK481 := bb_ BK481 hb
   replace BK482 := bb_ BK482 hb
   replace BK503 := bb_ BK503 hb
   replace BK510 := bb_ BK510 hb
   replace HB := bt_ HB hb
   clear hb hg
   refine hK.out _ _ ⟨cz_ BK510 0, cz_ BK510 1, cz_ BK510 2, cz_ BK510 3, cz_ BK482 0, cz_ BK482 1, cz_ BK482 2⟩ (fun hHeld => ?_)
   clear hK K
   refine nm_ (some 14) ?_
   refine on_ HT_ 5 (some 50) (bv_ 12 575) (fun K hK => ?_)
   refine gs_ Try.func22 #[.int .i64 a0, .agg #[.int .i64 t504, .int .i64 t505, .int .i64 t506, .slice Ao78 t507.length co78], .agg #[.int .i64 t514, .int .i64 t515, .int .i64 t516], .slice Ao80 t511.length co80] ?_
   with_reducible refine (impl_RefineAt.calls k a0 t504 t505 t506 _ _ t507 t514 t515 t516 _ _ t511 t517 t518 t519 t520 t523 _ ?side1 ?side2 ?side3 ?side4 A22.out).mono ?_
   (case side1 => exact ca_ (Kd.R_reads' HO509.out).2.2)
   (case side2 => exact (Kd.R_reads' HO509.out).2.1)
   (case side3 => exact ca_ (Kd.R_reads' HO513.out).2.2)
   (case side4 => exact (Kd.R_reads' HO513.out).2.1)
   rintro e w84 ⟨v521, rfl, ho0, hb⟩
   refine ⟨_, rfl, ?_⟩
   have HO522 := Aside0.mk (Kd.R_lower (Kd.R_new' (Kd.R_new' (Kd.R_new' ho0 (Kd.R_lt (ra_ HO489.out))) (Kd.R_lt (ra_ HO501.out))) (Kd.R_lt (ra_ HO509.out))) (below_size (bw_ HB).out))
   replace HO489 := Aside0.mk (Kd.R_elder' (ra_ HO489.out) (Kd.R_base ho0) hb)
   replace HO495 := rb_ HO495 hb
   replace HO501 := Aside0.mk (Kd.R_elder' (ra_ HO501.out) (Kd.R_base ho0) hb)
   replace HO509 := Aside0.mk (Kd.R_elder' (ra_ HO509.out) (Kd.R_base ho0) hb)
   replace HO513 := rb_ HO513 hb
   replace BK481 := bb_ BK481 hb
   replace BK482 := bb_ BK482 hb
   replace BK503 := bb_ BK503 hb
   replace BK510 := bb_ BK510 hb
   replace BK524 := bb_ BK524 hb
   replace HB := bt_ HB hb
   try clear hb
   (try clear ho0)
   refine hK.out _ _ ⟨cz_ BK510 0, cz_ BK510 1, cz_ BK510 2, cz_ BK510 3, cz_ BK482 0, cz_ BK482 1, cz_ BK482 2⟩ (fun hHeld => ?_)
   clear hK K
   refine nm_ (some 50) ?_
   refine px_ HT_ 6 44 639 ?_
   refine px_ HT_ 7 51 767 ?_
   refine px_ HT_ 8 52 1023 ?_
   exact norm_ (by simp only [putAll, Act.put, lstS, lstZ, lstC]) (hCont (v521, gb524) _ ⟨hHeld, (by (with_reducible repeat (first | apply Kd.R_alloc | apply Kd.R_drewN | apply Kd.R_drew)); exact Kd.R_mono HO489.out (fun _ hk => ⟨hk.1.1, ⟨hk.1.2, hk.2⟩⟩)), (by (with_reducible repeat (first | apply Kd.R_alloc | apply Kd.R_drewN | apply Kd.R_drew)); exact Kd.R_mono HO495.out (fun _ hk => hk.2)), (by (with_reducible repeat (first | apply Kd.R_alloc | apply Kd.R_drewN | apply Kd.R_drew)); exact Kd.R_mono HO501.out (fun _ hk => ⟨hk.1.1, ⟨hk.1.2, hk.2⟩⟩)), (by (with_reducible repeat (first | apply Kd.R_alloc | apply Kd.R_drewN | apply Kd.R_drew)); exact Kd.R_mono HO509.out (fun _ hk => ⟨hk.1.1.2, ⟨hk.1.2, hk.2⟩⟩)), (by (with_reducible repeat (first | apply Kd.R_alloc | apply Kd.R_drewN | apply Kd.R_drew)); exact Kd.R_mono HO513.out (fun _ hk => hk.2)), (by (with_reducible repeat (first | apply Kd.R_alloc | apply Kd.R_drewN | apply Kd.R_drew)); exact Kd.R_mono HO522.out (fun _ hk => ⟨hk.1.1.2, ⟨hk.1.2, hk.2⟩⟩)), (bl_ BK481).out, (bl_ BK482).out, (bl_ BK503).out, (bl_ BK510).out, (bl_ BK524).out, GW524.out, GW524.out, NB481_524.out, NB524_481.out, NB482_524.out, NB524_482.out, NB503_524.out, NB524_503.out, NB510_524.out, NB524_510.out, (bw_ HB).out⟩)
  skip
  refine bz_ 14 #[.int .i64 0, .int .i64 0, .int .i64 0, .slice none 0 0] 34 ?_
  intro gb524 hg w82 BK524 hb
  have GW524 := bs_ HB hg
  have NB481_524 := bm_ BK481 hg
  have NB524_481 := bn_ BK481 hg
  have NB482_524 := bm_ BK482 hg
  have NB524_482 := bn_ BK482 hg
  have NB503_524 := bm_ BK503 hg
  have NB524_503 := bn_ BK503 hg
  have NB510_524 := bm_ BK510 hg
  have NB524_510 := bn_ BK510 hg
  replace HO489 := rb_ HO489 hb
  replace HO495 := rb_ HO495 hb
  replace HO501 := rb_ HO501 hb
  replace HO509 := rb_ HO509 hb
  replace HO513 := rb_ HO513 hb
  replace BK481 := bb_ BK481 hb
  replace BK482 := bb_ BK482 hb
  replace BK503 := bb_ BK503 hb
  replace BK510 := bb_ BK510 hb
  replace HB := bt_ HB hb
  clear hb hg
  refine hK.out _ _ ⟨cz_ BK510 0, cz_ BK510 1, cz_ BK510 2, cz_ BK510 3, cz_ BK482 0, cz_ BK482 1, cz_ BK482 2⟩ (fun hHeld => ?_)
  clear hK K
  refine nm_ (some 14) ?_
  refine on_ HT_ 3 (some 48) (bv_ 12 543) (fun K hK => ?_)
  refine gs_ Try.func17 #[.agg #[.int .i64 a2_0, .int .i64 a2_1, .int .i64 a2_2]] ?_
  with_reducible refine (laws_toBall.calls a2_0 a2_1 a2_2 t514 t515 t516 _ A21.out).mono ?_
  rintro e w83 ⟨rfl, hb⟩
  refine ⟨_, rfl, ?_⟩
  replace HO489 := rb_ HO489 hb
  replace HO495 := rb_ HO495 hb
  replace HO501 := rb_ HO501 hb
  replace HO509 := rb_ HO509 hb
  replace HO513 := rb_ HO513 hb
  replace BK481 := bb_ BK481 hb
  replace BK482 := bb_ BK482 hb
  replace BK503 := bb_ BK503 hb
  replace BK510 := bb_ BK510 hb
  replace BK524 := bb_ BK524 hb
  replace HB := bt_ HB hb
  try clear hb
  refine hK.out _ _ ⟨cz_ BK510 0, cz_ BK510 1, cz_ BK510 2, cz_ BK510 3, cz_ BK482 0, cz_ BK482 1, cz_ BK482 2⟩ (fun hHeld => ?_)
  clear hK K
  refine nm_ (some 48) ?_
  refine on_ HT_ 5 (some 50) (bv_ 12 575) (fun K hK => ?_)
  refine gs_ Try.func22 #[.int .i64 a0, .agg #[.int .i64 t504, .int .i64 t505, .int .i64 t506, .slice Ao78 t507.length co78], .agg #[.int .i64 t514, .int .i64 t515, .int .i64 t516], .slice Ao80 t511.length co80] ?_
  with_reducible refine (impl_RefineAt.calls k a0 t504 t505 t506 _ _ t507 t514 t515 t516 _ _ t511 t517 t518 t519 t520 t523 _ ?side1 ?side2 ?side3 ?side4 A22.out).mono ?_
  (case side1 => exact ca_ (Kd.R_reads' HO509.out).2.2)
  (case side2 => exact (Kd.R_reads' HO509.out).2.1)
  (case side3 => exact ca_ (Kd.R_reads' HO513.out).2.2)
  (case side4 => exact (Kd.R_reads' HO513.out).2.1)
  rintro e w84 ⟨v521, rfl, ho0, hb⟩
  refine ⟨_, rfl, ?_⟩
  have HO522 := Aside0.mk (Kd.R_lower (Kd.R_new' (Kd.R_new' (Kd.R_new' ho0 (Kd.R_lt (ra_ HO489.out))) (Kd.R_lt (ra_ HO501.out))) (Kd.R_lt (ra_ HO509.out))) (below_size (bw_ HB).out))
  replace HO489 := Aside0.mk (Kd.R_elder' (ra_ HO489.out) (Kd.R_base ho0) hb)
  replace HO495 := rb_ HO495 hb
  replace HO501 := Aside0.mk (Kd.R_elder' (ra_ HO501.out) (Kd.R_base ho0) hb)
  replace HO509 := Aside0.mk (Kd.R_elder' (ra_ HO509.out) (Kd.R_base ho0) hb)
  replace HO513 := rb_ HO513 hb
  replace BK481 := bb_ BK481 hb
  replace BK482 := bb_ BK482 hb
  replace BK503 := bb_ BK503 hb
  replace BK510 := bb_ BK510 hb
  replace BK524 := bb_ BK524 hb
  replace HB := bt_ HB hb
  try clear hb
  (try clear ho0)
  refine hK.out _ _ ⟨cz_ BK510 0, cz_ BK510 1, cz_ BK510 2, cz_ BK510 3, cz_ BK482 0, cz_ BK482 1, cz_ BK482 2⟩ (fun hHeld => ?_)
  clear hK K
  refine nm_ (some 50) ?_
  refine px_ HT_ 6 44 639 ?_
  refine px_ HT_ 7 51 767 ?_
  refine px_ HT_ 8 52 1023 ?_
  exact norm_ (by simp only [putAll, Act.put, lstS, lstZ, lstC]) (hCont (v521, gb524) _ ⟨hHeld, (by (with_reducible repeat (first | apply Kd.R_alloc | apply Kd.R_drewN | apply Kd.R_drew)); exact Kd.R_mono HO489.out (fun _ hk => ⟨hk.1.1, ⟨hk.1.2, hk.2⟩⟩)), (by (with_reducible repeat (first | apply Kd.R_alloc | apply Kd.R_drewN | apply Kd.R_drew)); exact Kd.R_mono HO495.out (fun _ hk => hk.2)), (by (with_reducible repeat (first | apply Kd.R_alloc | apply Kd.R_drewN | apply Kd.R_drew)); exact Kd.R_mono HO501.out (fun _ hk => ⟨hk.1.1, ⟨hk.1.2, hk.2⟩⟩)), (by (with_reducible repeat (first | apply Kd.R_alloc | apply Kd.R_drewN | apply Kd.R_drew)); exact Kd.R_mono HO509.out (fun _ hk => ⟨hk.1.1.2, ⟨hk.1.2, hk.2⟩⟩)), (by (with_reducible repeat (first | apply Kd.R_alloc | apply Kd.R_drewN | apply Kd.R_drew)); exact Kd.R_mono HO513.out (fun _ hk => hk.2)), (by (with_reducible repeat (first | apply Kd.R_alloc | apply Kd.R_drewN | apply Kd.R_drew)); exact Kd.R_mono HO522.out (fun _ hk => ⟨hk.1.1.2, ⟨hk.1.2, hk.2⟩⟩)), (bl_ BK481).out, (bl_ BK482).out, (bl_ BK503).out, (bl_ BK510).out, (bl_ BK524).out, GW524.out, GW524.out, NB481_524.out, NB524_481.out, NB482_524.out, NB524_482.out, NB503_524.out, NB524_503.out, NB510_524.out, NB524_510.out, (bw_ HB).out⟩)
 rintro ⟨v521, gb524⟩ w85 ⟨hS_, h0_, h1_, h2_, h3_, h4_, h5_, h6_, h7_, h8_, h9_, h10_, h11_, h12_, h13_, h14_, h15_, h16_, h17_, h18_, h19_, h20_, h21_⟩
 clear HO489 HO495 HO501 HO509 HO513 BK481 BK482 BK503 BK510 HB
 have HO489 := Aside0.mk h0_
 have HO495 := Aside0.mk h1_
 have HO501 := Aside0.mk h2_
 have HO509 := Aside0.mk h3_
 have HO513 := Aside0.mk h4_
 have HO522 := Aside0.mk h5_
 have BK481 := Aside0.mk h6_
 have BK482 := Aside0.mk h7_
 have BK503 := Aside0.mk h8_
 have BK510 := Aside0.mk h9_
 have BK524 := Aside0.mk h10_
 have GW524 := Aside0.mk h11_
 have GW524 := Aside0.mk h12_
 have NB481_524 := Aside0.mk h13_
 have NB524_481 := Aside0.mk h14_
 have NB482_524 := Aside0.mk h15_
 have NB524_482 := Aside0.mk h16_
 have NB503_524 := Aside0.mk h17_
 have NB524_503 := Aside0.mk h18_
 have NB510_524 := Aside0.mk h19_
 have NB524_510 := Aside0.mk h20_
 have HB := Aside0.mk h21_
 clear h0_ h1_ h2_ h3_ h4_ h5_ h6_ h7_ h8_ h9_ h10_ h11_ h12_ h13_ h14_ h15_ h16_ h17_ h18_ h19_ h20_ h21_
 have hHeld : w85.cell? ⟨gb510, 0, none⟩ = some (.int .i64 t504) ∧ w85.cell? ⟨gb510, 1, none⟩ = some (.int .i64 t505) ∧ w85.cell? ⟨gb510, 2, none⟩ = some (.int .i64 t506) ∧ w85.cell? ⟨gb510, 3, none⟩ = some (.slice Ao78 t507.length co78) ∧ w85.cell? ⟨gb482, 0, none⟩ = some (.int .i64 a2_0) ∧ w85.cell? ⟨gb482, 1, none⟩ = some (.int .i64 a2_1) ∧ w85.cell? ⟨gb482, 2, none⟩ = some (.int .i64 a2_2) := hS_
 obtain ⟨Ao89, co89, eo89⟩ := Kd.R_slice HO522.out
 (first | subst eo89 | (injection eo89 with f1_ f2_ f3_; have f4_ := f1_.symm; have f5_ := f3_.symm; clear f1_ f2_ f3_; subst f4_; subst f5_))
 refine norm_ (a' := ?_) ?_ ?_
 rotate_left
 ·simp only [putAll, Act.put, lstS, lstZ, lstC]
  rfl
 refine on_ HT_ 10 none (bv_ 12 2047) (fun K hK => ?_)
 have hs86 : w85.cell? ⟨gb524, 0, none⟩ = some (.int .i64 0) := (blk_cell BK524.out 0).trans rfl
 have hfs86 := blk_frozen BK524.out 0
 have hns86_0 := NB481_524.out
 have hns86_1 := NB482_524.out
 have hns86_2 := NB503_524.out
 have hns86_3 := NB510_524.out
 have hms86_0 := NB524_481.out
 have hms86_1 := NB524_482.out
 have hms86_2 := NB524_503.out
 have hms86_3 := NB524_510.out
 have hs87 : w85.cell? ⟨gb524, 1, none⟩ = some (.int .i64 0) := (blk_cell BK524.out 1).trans rfl
 have hfs87 := blk_frozen BK524.out 1
 have hns87_0 := NB481_524.out
 have hns87_1 := NB482_524.out
 have hns87_2 := NB503_524.out
 have hns87_3 := NB510_524.out
 have hms87_0 := NB524_481.out
 have hms87_1 := NB524_482.out
 have hms87_2 := NB524_503.out
 have hms87_3 := NB524_510.out
 have hs88 : w85.cell? ⟨gb524, 2, none⟩ = some (.int .i64 0) := (blk_cell BK524.out 2).trans rfl
 have hfs88 := blk_frozen BK524.out 2
 have hns88_0 := NB481_524.out
 have hns88_1 := NB482_524.out
 have hns88_2 := NB503_524.out
 have hns88_3 := NB510_524.out
 have hms88_0 := NB524_481.out
 have hms88_1 := NB524_482.out
 have hms88_2 := NB524_503.out
 have hms88_3 := NB524_510.out
 have hs90 : w85.cell? ⟨gb524, 3, none⟩ = some (.slice none 0 0) := (blk_cell BK524.out 3).trans rfl
 have hfs90 := blk_frozen BK524.out 3
 have hns90_0 := NB481_524.out
 have hns90_1 := NB482_524.out
 have hns90_2 := NB503_524.out
 have hns90_3 := NB510_524.out
 have hms90_0 := NB524_481.out
 have hms90_1 := NB524_482.out
 have hms90_2 := NB524_503.out
 have hms90_3 := NB524_510.out
 refine skip_ (w1 := ?_) (by rfl) rfl ?_ ?_
 rotate_left
 ·go_simp
  rfl
 refine hK.out _ _ ⟨(cg_ NB510_524 ((cg_ NB510_524 ((cg_ NB510_524 ((cg_ NB510_524 (hHeld.1)))))))), (cg_ NB510_524 ((cg_ NB510_524 ((cg_ NB510_524 ((cg_ NB510_524 (hHeld.2.1)))))))), (cg_ NB510_524 ((cg_ NB510_524 ((cg_ NB510_524 ((cg_ NB510_524 (hHeld.2.2.1)))))))), (cg_ NB510_524 ((cg_ NB510_524 ((cg_ NB510_524 ((cg_ NB510_524 (hHeld.2.2.2.1)))))))), (cg_ NB482_524 ((cg_ NB482_524 ((cg_ NB482_524 ((cg_ NB482_524 (hHeld.2.2.2.2.1)))))))), (cg_ NB482_524 ((cg_ NB482_524 ((cg_ NB482_524 ((cg_ NB482_524 (hHeld.2.2.2.2.2.1)))))))), (cg_ NB482_524 ((cg_ NB482_524 ((cg_ NB482_524 ((cg_ NB482_524 (hHeld.2.2.2.2.2.2))))))))⟩ (fun hHeld => ?_)
 clear hK K
 refine px_ HT_ 11 15 4095 ?_
 refine done_ (done_of HT_.out (by kernel_rfl)) ?_
 have hnb91 := NB524_481.out
 have hnc91 := NB481_524.out
 have hnb92 := NB524_482.out
 have hnc92 := NB482_524.out
 have hnb93 := NB524_503.out
 have hnc93 := NB503_524.out
 have hnb94 := NB524_510.out
 have hnc94 := NB510_524.out
 obtain ⟨hcz95_0, hcz95_1, hcz95_2, hcz95_3, hfz95_0, hfz95_1, hfz95_2, hfz95_3⟩ := ch4_ BK524
 have hnb96 := NB503_482.out
 have hnc96 := NB482_503.out
 obtain ⟨hcz97_0, hcz97_1, hcz97_2, hcz97_3, hfz97_0, hfz97_1, hfz97_2, hfz97_3⟩ := ch4_ BK503
 try go_wp2_with (first | ((refine gc_ 12 ?_); refine ge_ 55 Try.func12 #[.agg #[.int .i64 t517, .int .i64 t518, .int .i64 t519, .slice Ao89 t520.length co89], .agg #[.int .i64 t496, .int .i64 t497, .int .i64 t498, .slice Ao68 t499.length co68]] ?_; (with_reducible refine (laws_eqMeasure.calls k t517 t518 t519 _ _ t520 t496 t497 t498 _ _ t499 true _ ?side1 ?side2 ?side3 ?side4 A23.out).mono ?_); (case side1 => refine (Kd.R_reads' (e := 72) (base := w.heap.size) (ok := fun k_ => (some k_ ≠ (v488 : Value).ownBlock ∧ (some k_ ≠ (.slice Ao68 t499.length co68 : Value).ownBlock ∧ some k_ ≠ (.slice Ao78 t507.length co78 : Value).ownBlock))) (n := t520.length) (c := co89) ?_).2.2; exact (ra_ (rs4_ HO522.out BK524.out))); (case side2 => exact (Kd.R_reads' HO522.out).2.1); (case side3 => refine (Kd.R_reads' (e := 72) (base := w.heap.size) (ok := fun k_ => (some k_ ≠ (v488 : Value).ownBlock ∧ (some k_ ≠ (.slice Ao78 t507.length co78 : Value).ownBlock ∧ some k_ ≠ (.slice Ao89 t520.length co89 : Value).ownBlock))) (n := t499.length) (c := co68) ?_).2.2; exact (ra_ (rs4_ HO501.out BK524.out))); (case side4 => exact (Kd.R_reads' HO501.out).2.1); rintro e w98 ⟨rfl, hb⟩; refine ⟨_, rfl, ?_⟩; replace HO489 := Aside0.mk (Kd.R_below (ra_ (rs4_ HO489.out BK524.out)) hb); replace HO495 := Aside0.mk (Kd.R_below (ra_ (rs4_ HO495.out BK524.out)) hb); replace HO501 := Aside0.mk (Kd.R_below (ra_ (rs4_ HO501.out BK524.out)) hb); replace HO509 := Aside0.mk (Kd.R_below (ra_ (rs4_ HO509.out BK524.out)) hb); replace HO513 := Aside0.mk (Kd.R_below (ra_ (rs4_ HO513.out BK524.out)) hb); replace HO522 := Aside0.mk (Kd.R_below (ra_ (rs4_ HO522.out BK524.out)) hb); replace BK481 := fb_ BK481 NB481_524 hb; replace BK482 := fb_ BK482 NB482_524 hb; replace BK503 := fb_ BK503 NB503_524 hb; replace BK510 := fb_ BK510 NB510_524 hb; replace BK524 := Aside0.mk (blk_below (g := gb524) (o := .cells #[.int .i64 t517, .int .i64 t518, .int .i64 t519, .slice Ao89 t520.length co89] 34 (0, 0)) (bp_ BK524).out hb); replace HB := bt_ HB hb; (try clear hb)))
 replace HO489 := Aside0.mk (Kd.R_drew HO489.out)
 replace HO495 := Aside0.mk (Kd.R_drew HO495.out)
 replace HO501 := Aside0.mk (Kd.R_drew HO501.out)
 replace HO509 := Aside0.mk (Kd.R_drew HO509.out)
 replace HO513 := Aside0.mk (Kd.R_drew HO513.out)
 replace HO522 := Aside0.mk (Kd.R_drew HO522.out)
 replace BK481 := bd_ BK481
 replace BK482 := bd_ BK482
 replace BK503 := bd_ BK503
 replace BK510 := bd_ BK510
 replace BK524 := bd_ BK524
 replace HB := be_ HB
 refine start_ (n := 5) (S := fun w' => w'.cell? ⟨gb510, 0, none⟩ = some (.int .i64 t504) ∧ w'.cell? ⟨gb510, 1, none⟩ = some (.int .i64 t505) ∧ w'.cell? ⟨gb510, 2, none⟩ = some (.int .i64 t506) ∧ w'.cell? ⟨gb510, 3, none⟩ = some (.slice Ao78 t507.length co78) ∧ w'.cell? ⟨gb481, 0, none⟩ = some (.int .i64 a1_0) ∧ w'.cell? ⟨gb481, 1, none⟩ = some (.int .i64 a1_1) ∧ w'.cell? ⟨gb481, 2, none⟩ = some (.int .i64 a1_2) ∧ w'.cell? ⟨gb481, 3, none⟩ = some (.slice A1_3 l1_3.length c1_3)) (ds := []) (bv_ 5 0) (by kernel_rfl) rfl rfl ⟨cz_ BK510 0, cz_ BK510 1, cz_ BK510 2, cz_ BK510 3, cz_ BK481 0, cz_ BK481 1, cz_ BK481 2, cz_ BK481 3⟩ (fun hHeld => ?_)
 generalize w98.drew = w99 at HO489 HO495 HO501 HO509 HO513 HO522 BK481 BK482 BK503 BK510 BK524 HB hHeld ⊢
 refine take_ (i := 0) (N := some 62) (v := ?_) (a' := ?_) (bv_ 5 1) rfl rfl (by kernel_rfl) (fun _ _ _ h => h) (Or.inl ⟨by rfl, ?_⟩) hHeld ?_ ?_
 rotate_left
 ·rintro w' ⟨s0, s1, s2, s3, s4, s5, s6, s7⟩
  go_simp
  with_reducible rfl
 rotate_left
 ·simp only [Act.put, lstS, lstZ, lstC, i64_w, i32_w]
  rfl
 refine take_ (i := 1) (N := some 63) (v := ?_) (a' := ?_) (bv_ 5 3) rfl rfl (by kernel_rfl) (fun _ _ _ h => h) (Or.inl ⟨by rfl, ?_⟩) hHeld ?_ ?_
 rotate_left
 ·rintro w' ⟨s0, s1, s2, s3, s4, s5, s6, s7⟩
  go_simp
  with_reducible rfl
 rotate_left
 ·simp only [Act.put, lstS, lstZ, lstC, i64_w, i32_w]
  rfl
 refine one_ (i := 2) (N := some 64) (bv_ 5 7) rfl rfl (by kernel_rfl) (by decide) (fun K hK => ?_)
 refine gs_ Try.func9 #[.agg #[.int .i64 a1_0, .int .i64 a1_1, .int .i64 a1_2, .slice A1_3 l1_3.length c1_3]] ?_
 with_reducible refine (laws_toMeasure.calls k a1_0 a1_1 a1_2 _ _ l1_3 t526 t527 t528 t529 _ ?side1 ?side2 A26.out).mono ?_
 (case side1 => exact ca_ (Kd.C_below HR1_3.out HB.out))
 (case side2 => exact HC1_3.out)
 rintro e w100 ⟨v530, rfl, ho0, hb⟩
 refine ⟨_, rfl, ?_⟩
 have HO531 := Aside0.mk (Kd.R_lower (Kd.R_new' (Kd.R_new' (Kd.R_new' (Kd.R_new' ho0 (Kd.R_lt (ra_ HO489.out))) (Kd.R_lt (ra_ HO501.out))) (Kd.R_lt (ra_ HO509.out))) (Kd.R_lt (ra_ HO522.out))) (below_size (bw_ HB).out))
 replace HO489 := Aside0.mk (Kd.R_elder' (ra_ HO489.out) (Kd.R_base ho0) hb)
 replace HO495 := rb_ HO495 hb
 replace HO501 := Aside0.mk (Kd.R_elder' (ra_ HO501.out) (Kd.R_base ho0) hb)
 replace HO509 := Aside0.mk (Kd.R_elder' (ra_ HO509.out) (Kd.R_base ho0) hb)
 replace HO513 := rb_ HO513 hb
 replace HO522 := Aside0.mk (Kd.R_elder' (ra_ HO522.out) (Kd.R_base ho0) hb)
 replace BK481 := bb_ BK481 hb
 replace BK482 := bb_ BK482 hb
 replace BK503 := bb_ BK503 hb
 replace BK510 := bb_ BK510 hb
 replace BK524 := bb_ BK524 hb
 replace HB := bt_ HB hb
 try clear hb
 (try clear ho0)
 obtain ⟨Ao101, co101, eo101⟩ := Kd.R_slice HO531.out
 (first | subst eo101 | (injection eo101 with f1_ f2_ f3_; have f4_ := f1_.symm; have f5_ := f3_.symm; clear f1_ f2_ f3_; subst f4_; subst f5_))
 refine hK.out _ _ ⟨cz_ BK510 0, cz_ BK510 1, cz_ BK510 2, cz_ BK510 3, cz_ BK481 0, cz_ BK481 1, cz_ BK481 2, cz_ BK481 3⟩ (fun hHeld => ?_)
 clear hK K
 refine nm_ (some 64) ?_
 refine one_ (i := 3) (N := some 65) (bv_ 5 15) rfl rfl (by kernel_rfl) (by decide) (fun K hK => ?_)
 refine gs_ Try.func12 #[.agg #[.int .i64 t504, .int .i64 t505, .int .i64 t506, .slice Ao78 t507.length co78], .agg #[.int .i64 t526, .int .i64 t527, .int .i64 t528, .slice Ao101 t529.length co101]] ?_
 with_reducible refine (laws_eqMeasure.calls k t504 t505 t506 _ _ t507 t526 t527 t528 _ _ t529 true _ ?side1 ?side2 ?side3 ?side4 A27.out).mono ?_
 (case side1 => exact ca_ (Kd.R_reads' HO509.out).2.2)
 (case side2 => exact (Kd.R_reads' HO509.out).2.1)
 (case side3 => exact ca_ (Kd.R_reads' HO531.out).2.2)
 (case side4 => exact (Kd.R_reads' HO531.out).2.1)
 rintro e w102 ⟨rfl, hb⟩
 refine ⟨_, rfl, ?_⟩
 replace HO489 := rb_ HO489 hb
 replace HO495 := rb_ HO495 hb
 replace HO501 := rb_ HO501 hb
 replace HO509 := rb_ HO509 hb
 replace HO513 := rb_ HO513 hb
 replace HO522 := rb_ HO522 hb
 replace HO531 := rb_ HO531 hb
 replace BK481 := bb_ BK481 hb
 replace BK482 := bb_ BK482 hb
 replace BK503 := bb_ BK503 hb
 replace BK510 := bb_ BK510 hb
 replace BK524 := bb_ BK524 hb
 replace HB := bt_ HB hb
 try clear hb
 refine hK.out _ _ ⟨cz_ BK510 0, cz_ BK510 1, cz_ BK510 2, cz_ BK510 3, cz_ BK481 0, cz_ BK481 1, cz_ BK481 2, cz_ BK481 3⟩ (fun hHeld => ?_)
 clear hK K
 refine nm_ (some 65) ?_
 refine pure_ (i := 4) (N := some 66) (v := ?_) (a' := ?_) (bv_ 5 31) rfl rfl (by kernel_rfl) (fun _ _ _ h => h) (Or.inl ⟨by rfl, ?_⟩) ?_ ?_
 rotate_left
 ·intro w'
  go_simp
  with_reducible rfl
 rotate_left
 ·simp only [Act.put, lstS, lstZ, lstC, i64_w, i32_w]
  rfl
 refine done_ (by kernel_rfl) ?_
 try go_wp2_with (first | ((refine gc_ 21 ?_); refine ge_ 69 Try.func21 #[.slice A3 l3.length c3] ?_; (with_reducible refine (laws_toInt64S.calls k _ _ l3 t533 _ ?side1 ?side2 A29.out).mono ?_); (case side1 => exact ca_ (Kd.C_below HR3.out HB.out)); (case side2 => exact HC3.out); rintro e w103 ⟨v534, rfl, ho0, hb⟩; refine ⟨_, rfl, ?_⟩; have HO535 := Aside0.mk (Kd.R_lower (Kd.R_new' (Kd.R_new' ho0 (Kd.R_lt (ra_ HO495.out))) (Kd.R_lt (ra_ HO513.out))) (below_size (bw_ HB).out)); replace HO489 := rb_ HO489 hb; replace HO495 := Aside0.mk (Kd.R_elder' (ra_ HO495.out) (Kd.R_base ho0) hb); replace HO501 := rb_ HO501 hb; replace HO509 := rb_ HO509 hb; replace HO513 := Aside0.mk (Kd.R_elder' (ra_ HO513.out) (Kd.R_base ho0) hb); replace HO522 := rb_ HO522 hb; replace HO531 := rb_ HO531 hb; replace BK481 := bb_ BK481 hb; replace BK482 := bb_ BK482 hb; replace BK503 := bb_ BK503 hb; replace BK510 := bb_ BK510 hb; replace BK524 := bb_ BK524 hb; replace HB := bt_ HB hb; (try clear hb); (try clear ho0); obtain ⟨Ao104, co104, eo104⟩ := Kd.R_slice HO535.out; subst eo104) | ((refine gc_ 23 ?_); refine ge_ 70 Try.func23 #[.slice Ao80 t511.length co80, .slice Ao104 t533.length co104] ?_; (with_reducible refine (laws_eqInt64S.calls k _ _ t511 _ _ t533 true _ ?side1 ?side2 ?side3 ?side4 A30.out).mono ?_); (case side1 => exact ca_ (Kd.R_reads' HO513.out).2.2); (case side2 => exact (Kd.R_reads' HO513.out).2.1); (case side3 => exact ca_ (Kd.R_reads' HO535.out).2.2); (case side4 => exact (Kd.R_reads' HO535.out).2.1); rintro e w' ⟨rfl, ⟨nd, rfl⟩⟩; refine ⟨_, rfl, ?_⟩; (try (rw [drewN_self w103]; generalize hq_ : World.drewN w103 _ = w103; have n0_ : Aside0 (Kd.R k72 72 w103 w.heap.size (fun k_ => some k_ ≠ (.slice Ao68 t499.length co68 : Value).ownBlock ∧ some k_ ≠ (.slice Ao78 t507.length co78 : Value).ownBlock ∧ some k_ ≠ (.slice Ao89 t520.length co89 : Value).ownBlock ∧ some k_ ≠ (.slice Ao101 t529.length co101 : Value).ownBlock) v488 t487) := ⟨by rw [← hq_]; exact (by (with_reducible repeat (first | apply Kd.R_alloc | apply Kd.R_drewN | apply Kd.R_drew)); exact Kd.R_mono HO489.out (fun _ hk => ⟨hk.1.1, ⟨hk.1.2.1, ⟨hk.1.2.2, hk.2⟩⟩⟩))⟩; have n1_ : Aside0 (Kd.R (Kd.int .i64) 2 w103 w.heap.size (fun k_ => some k_ ≠ (.slice Ao80 t511.length co80 : Value).ownBlock ∧ some k_ ≠ (.slice Ao104 t533.length co104 : Value).ownBlock) v494 t493) := ⟨by rw [← hq_]; exact (ra_ HO495.out)⟩; have n2_ : Aside0 (Kd.R k72 72 w103 w.heap.size (fun k_ => some k_ ≠ (v488 : Value).ownBlock ∧ some k_ ≠ (.slice Ao78 t507.length co78 : Value).ownBlock ∧ some k_ ≠ (.slice Ao89 t520.length co89 : Value).ownBlock ∧ some k_ ≠ (.slice Ao101 t529.length co101 : Value).ownBlock) (.slice Ao68 t499.length co68) t499) := ⟨by rw [← hq_]; exact (by (with_reducible repeat (first | apply Kd.R_alloc | apply Kd.R_drewN | apply Kd.R_drew)); exact Kd.R_mono HO501.out (fun _ hk => ⟨hk.1.1, ⟨hk.1.2.1, ⟨hk.1.2.2, hk.2⟩⟩⟩))⟩; have n3_ : Aside0 (Kd.R k72 72 w103 w.heap.size (fun k_ => some k_ ≠ (v488 : Value).ownBlock ∧ some k_ ≠ (.slice Ao68 t499.length co68 : Value).ownBlock ∧ some k_ ≠ (.slice Ao89 t520.length co89 : Value).ownBlock ∧ some k_ ≠ (.slice Ao101 t529.length co101 : Value).ownBlock) (.slice Ao78 t507.length co78) t507) := ⟨by rw [← hq_]; exact (by (with_reducible repeat (first | apply Kd.R_alloc | apply Kd.R_drewN | apply Kd.R_drew)); exact Kd.R_mono HO509.out (fun _ hk => ⟨hk.1.1, ⟨hk.1.2.1, ⟨hk.1.2.2, hk.2⟩⟩⟩))⟩; have n4_ : Aside0 (Kd.R (Kd.int .i64) 2 w103 w.heap.size (fun k_ => some k_ ≠ (v494 : Value).ownBlock ∧ some k_ ≠ (.slice Ao104 t533.length co104 : Value).ownBlock) (.slice Ao80 t511.length co80) t511) := ⟨by rw [← hq_]; exact (ra_ HO513.out)⟩; have n5_ : Aside0 (Kd.R k72 72 w103 w.heap.size (fun k_ => some k_ ≠ (v488 : Value).ownBlock ∧ some k_ ≠ (.slice Ao68 t499.length co68 : Value).ownBlock ∧ some k_ ≠ (.slice Ao78 t507.length co78 : Value).ownBlock ∧ some k_ ≠ (.slice Ao101 t529.length co101 : Value).ownBlock) (.slice Ao89 t520.length co89) t520) := ⟨by rw [← hq_]; exact (by (with_reducible repeat (first | apply Kd.R_alloc | apply Kd.R_drewN | apply Kd.R_drew)); exact Kd.R_mono HO522.out (fun _ hk => ⟨hk.1.1, ⟨hk.1.2.1, ⟨hk.1.2.2, hk.2⟩⟩⟩))⟩; have n6_ : Aside0 (Kd.R k72 72 w103 w.heap.size (fun k_ => some k_ ≠ (v488 : Value).ownBlock ∧ some k_ ≠ (.slice Ao68 t499.length co68 : Value).ownBlock ∧ some k_ ≠ (.slice Ao78 t507.length co78 : Value).ownBlock ∧ some k_ ≠ (.slice Ao89 t520.length co89 : Value).ownBlock) (.slice Ao101 t529.length co101) t529) := ⟨by rw [← hq_]; exact (by (with_reducible repeat (first | apply Kd.R_alloc | apply Kd.R_drewN | apply Kd.R_drew)); exact Kd.R_mono HO531.out (fun _ hk => ⟨hk.1.1.1.2, ⟨hk.1.1.2, ⟨hk.1.2, hk.2⟩⟩⟩))⟩; have n7_ : Aside0 (Kd.R (Kd.int .i64) 2 w103 w.heap.size (fun k_ => some k_ ≠ (v494 : Value).ownBlock ∧ some k_ ≠ (.slice Ao80 t511.length co80 : Value).ownBlock) (.slice Ao104 t533.length co104) t533) := ⟨by rw [← hq_]; exact (by (with_reducible repeat (first | apply Kd.R_alloc | apply Kd.R_drewN | apply Kd.R_drew)); exact Kd.R_mono HO535.out (fun _ hk => ⟨hk.1.2, hk.2⟩))⟩; have n8_ := bq_ BK481 hq_; have n9_ := bq_ BK482 hq_; have n10_ := bq_ BK503 hq_; have n11_ := bq_ BK510 hq_; have n12_ := bq_ BK524 hq_; have n13_ := hq_' HB hq_; clear HO489 HO495 HO501 HO509 HO513 HO522 HO531 HO535 BK481 BK482 BK503 BK510 BK524 HB hq_; have HO489 := n0_; have HO495 := n1_; have HO501 := n2_; have HO509 := n3_; have HO513 := n4_; have HO522 := n5_; have HO531 := n6_; have HO535 := n7_; have BK481 := n8_; have BK482 := n9_; have BK503 := n10_; have BK510 := n11_; have BK524 := n12_; have HB := n13_; clear n0_ n1_ n2_ n3_ n4_ n5_ n6_ n7_ n8_ n9_ n10_ n11_ n12_ n13_)); obtain ⟨hcz105_0, hcz105_1, hcz105_2, hcz105_3, hfz105_0, hfz105_1, hfz105_2, hfz105_3⟩ := ch4_ BK510) | ((refine gc_ 13 ?_); refine ge_ 74 Try.func13 #[.agg #[.int .i64 t504, .int .i64 t505, .int .i64 t506, .slice Ao78 t507.length co78], .int .i64 1] ?_; (with_reducible refine (laws_markMeasure.calls k t504 t505 t506 (fun k_ => some k_ = (.slice Ao78 t507.length co78 : Value).ownBlock) (.slice Ao78 t507.length co78) t507 1 t537 t538 w _ ?side1 ?side2 A32.out).mono ?_); (case side1 => repeat (first | (with_reducible first | exact HB.out | apply below_alloc | apply pw_below_drewN | apply below_drew1 | refine below_set ?_ GW481.out | refine below_set ?_ GW482.out | refine below_set ?_ GW503.out | refine below_set ?_ GW510.out | refine below_set ?_ GW524.out) | exact HB.out)); (case side2 => exact Kd.R_tight rfl HO509.out); rintro e w106 ⟨rfl, hy0, hb, hkp⟩; refine ⟨_, rfl, ?_⟩; replace BK481 := Aside0.mk (blk_kept (bl_ BK481).out hkp (fun hs_ => (fun e_ => (Kd.R_ne HO509.out BK481.out (by decide)) e_) hs_)); replace BK482 := Aside0.mk (blk_kept (bl_ BK482).out hkp (fun hs_ => (fun e_ => (Kd.R_ne HO509.out BK482.out (by decide)) e_) hs_)); replace HO489 := Aside0.mk (Kd.R_mono (ok' := fun k_ => some k_ ≠ (.slice Ao68 t499.length co68 : Value).ownBlock ∧ some k_ ≠ (.slice Ao78 t507.length co78 : Value).ownBlock ∧ some k_ ≠ (.slice Ao89 t520.length co89 : Value).ownBlock ∧ some k_ ≠ (.slice Ao101 t529.length co101 : Value).ownBlock) (Kd.R_keptB (HO489.out) hkp (fun k_ hk_ hs_ => (hk_.2.1) hs_)) (fun k_ hk_ => ⟨hk_.1.1, hk_.1.2.1, hk_.1.2.2.1, hk_.1.2.2.2⟩)); replace HO495 := Aside0.mk (Kd.R_mono (ok' := fun k_ => some k_ ≠ (.slice Ao80 t511.length co80 : Value).ownBlock ∧ some k_ ≠ (.slice Ao104 t533.length co104 : Value).ownBlock) (Kd.R_keptB ((Kd.R_apart' HO495.out (Kd.R_typed HO509.out) (by decide))) hkp (fun k_ hk_ hs_ => (hk_.2) hs_)) (fun k_ hk_ => ⟨hk_.1.1.1, hk_.1.1.2⟩)); replace HO501 := Aside0.mk (Kd.R_mono (ok' := fun k_ => some k_ ≠ (v488 : Value).ownBlock ∧ some k_ ≠ (.slice Ao78 t507.length co78 : Value).ownBlock ∧ some k_ ≠ (.slice Ao89 t520.length co89 : Value).ownBlock ∧ some k_ ≠ (.slice Ao101 t529.length co101 : Value).ownBlock) (Kd.R_keptB (HO501.out) hkp (fun k_ hk_ hs_ => (hk_.2.1) hs_)) (fun k_ hk_ => ⟨hk_.1.1, hk_.1.2.1, hk_.1.2.2.1, hk_.1.2.2.2⟩)); replace BK503 := Aside0.mk (blk_kept (bl_ BK503).out hkp (fun hs_ => (fun e_ => (Kd.R_ne HO509.out BK503.out (by decide)) e_) hs_)); replace BK510 := Aside0.mk (blk_kept (bl_ BK510).out hkp (fun hs_ => (fun e_ => (Kd.R_ne HO509.out BK510.out (by decide)) e_) hs_)); replace HO513 := Aside0.mk (Kd.R_mono (ok' := fun k_ => some k_ ≠ (v494 : Value).ownBlock ∧ some k_ ≠ (.slice Ao104 t533.length co104 : Value).ownBlock) (Kd.R_keptB ((Kd.R_apart' HO513.out (Kd.R_typed HO509.out) (by decide))) hkp (fun k_ hk_ hs_ => (hk_.2) hs_)) (fun k_ hk_ => ⟨hk_.1.1.1, hk_.1.1.2⟩)); replace HO522 := Aside0.mk (Kd.R_mono (ok' := fun k_ => some k_ ≠ (v488 : Value).ownBlock ∧ some k_ ≠ (.slice Ao68 t499.length co68 : Value).ownBlock ∧ some k_ ≠ (.slice Ao78 t507.length co78 : Value).ownBlock ∧ some k_ ≠ (.slice Ao101 t529.length co101 : Value).ownBlock) (Kd.R_keptB (HO522.out) hkp (fun k_ hk_ hs_ => (hk_.2.2.1) hs_)) (fun k_ hk_ => ⟨hk_.1.1, hk_.1.2.1, hk_.1.2.2.1, hk_.1.2.2.2⟩)); replace BK524 := Aside0.mk (blk_kept (bl_ BK524).out hkp (fun hs_ => (fun e_ => (Kd.R_ne HO509.out BK524.out (by decide)) e_) hs_)); replace HO531 := Aside0.mk (Kd.R_mono (ok' := fun k_ => some k_ ≠ (v488 : Value).ownBlock ∧ some k_ ≠ (.slice Ao68 t499.length co68 : Value).ownBlock ∧ some k_ ≠ (.slice Ao78 t507.length co78 : Value).ownBlock ∧ some k_ ≠ (.slice Ao89 t520.length co89 : Value).ownBlock) (Kd.R_keptB (HO531.out) hkp (fun k_ hk_ hs_ => (hk_.2.2.1) hs_)) (fun k_ hk_ => ⟨hk_.1.1, hk_.1.2.1, hk_.1.2.2.1, hk_.1.2.2.2⟩)); replace HO535 := Aside0.mk (Kd.R_mono (ok' := fun k_ => some k_ ≠ (v494 : Value).ownBlock ∧ some k_ ≠ (.slice Ao80 t511.length co80 : Value).ownBlock) (Kd.R_keptB ((Kd.R_apart' HO535.out (Kd.R_typed HO509.out) (by decide))) hkp (fun k_ hk_ hs_ => (hk_.2) hs_)) (fun k_ hk_ => ⟨hk_.1.1.1, hk_.1.1.2⟩)); replace HO509 := Aside0.mk (Kd.R_reok rfl hy0 (fun k_ e_ => HO509.out.1 k_ e_)); replace HB := Aside0.mk (hb); (try clear hb); (try clear hkp); (try clear hy0)) | ((refine gc_ 24 ?_); refine ge_ 77 Try.func24 #[.slice Ao80 t511.length co80, .int .i64 t537] ?_; (with_reducible refine (laws_markInt64S.calls k (fun k_ => some k_ = (.slice Ao80 t511.length co80 : Value).ownBlock) (.slice Ao80 t511.length co80) t511 t537 t539 t540 w _ ?side1 ?side2 A33.out).mono ?_); (case side1 => repeat (first | (with_reducible first | exact HB.out | apply below_alloc | apply pw_below_drewN | apply below_drew1 | refine below_set ?_ GW481.out | refine below_set ?_ GW482.out | refine below_set ?_ GW503.out | refine below_set ?_ GW510.out | refine below_set ?_ GW524.out) | exact HB.out)); (case side2 => exact Kd.R_tight rfl HO513.out); rintro e w107 ⟨rfl, hy0, hb, hkp⟩; refine ⟨_, rfl, ?_⟩; replace BK481 := Aside0.mk (blk_kept (bl_ BK481).out hkp (fun hs_ => (fun e_ => (Kd.R_ne HO513.out BK481.out (by decide)) e_) hs_)); replace BK482 := Aside0.mk (blk_kept (bl_ BK482).out hkp (fun hs_ => (fun e_ => (Kd.R_ne HO513.out BK482.out (by decide)) e_) hs_)); replace HO489 := Aside0.mk (Kd.R_mono (ok' := fun k_ => some k_ ≠ (.slice Ao68 t499.length co68 : Value).ownBlock ∧ some k_ ≠ (.slice Ao78 t507.length co78 : Value).ownBlock ∧ some k_ ≠ (.slice Ao89 t520.length co89 : Value).ownBlock ∧ some k_ ≠ (.slice Ao101 t529.length co101 : Value).ownBlock) (Kd.R_keptB ((Kd.R_apart' HO489.out (Kd.R_typed HO513.out) (by decide))) hkp (fun k_ hk_ hs_ => (hk_.2) hs_)) (fun k_ hk_ => ⟨hk_.1.1.1, hk_.1.1.2.1, hk_.1.1.2.2.1, hk_.1.1.2.2.2⟩)); replace HO495 := Aside0.mk (Kd.R_mono (ok' := fun k_ => some k_ ≠ (.slice Ao80 t511.length co80 : Value).ownBlock ∧ some k_ ≠ (.slice Ao104 t533.length co104 : Value).ownBlock) (Kd.R_keptB (HO495.out) hkp (fun k_ hk_ hs_ => (hk_.1) hs_)) (fun k_ hk_ => ⟨hk_.1.1, hk_.1.2⟩)); replace HO501 := Aside0.mk (Kd.R_mono (ok' := fun k_ => some k_ ≠ (v488 : Value).ownBlock ∧ some k_ ≠ (.slice Ao78 t507.length co78 : Value).ownBlock ∧ some k_ ≠ (.slice Ao89 t520.length co89 : Value).ownBlock ∧ some k_ ≠ (.slice Ao101 t529.length co101 : Value).ownBlock) (Kd.R_keptB ((Kd.R_apart' HO501.out (Kd.R_typed HO513.out) (by decide))) hkp (fun k_ hk_ hs_ => (hk_.2) hs_)) (fun k_ hk_ => ⟨hk_.1.1.1, hk_.1.1.2.1, hk_.1.1.2.2.1, hk_.1.1.2.2.2⟩)); replace BK503 := Aside0.mk (blk_kept (bl_ BK503).out hkp (fun hs_ => (fun e_ => (Kd.R_ne HO513.out BK503.out (by decide)) e_) hs_)); replace HO509 := Aside0.mk (Kd.R_mono (ok' := fun k_ => some k_ ≠ (v488 : Value).ownBlock ∧ some k_ ≠ (.slice Ao68 t499.length co68 : Value).ownBlock ∧ some k_ ≠ (.slice Ao89 t520.length co89 : Value).ownBlock ∧ some k_ ≠ (.slice Ao101 t529.length co101 : Value).ownBlock) (Kd.R_keptB ((Kd.R_apart' HO509.out (Kd.R_typed HO513.out) (by decide))) hkp (fun k_ hk_ hs_ => (hk_.2) hs_)) (fun k_ hk_ => ⟨hk_.1.1.1, hk_.1.1.2.1, hk_.1.1.2.2.1, hk_.1.1.2.2.2⟩)); replace BK510 := Aside0.mk (blk_kept (bl_ BK510).out hkp (fun hs_ => (fun e_ => (Kd.R_ne HO513.out BK510.out (by decide)) e_) hs_)); replace HO522 := Aside0.mk (Kd.R_mono (ok' := fun k_ => some k_ ≠ (v488 : Value).ownBlock ∧ some k_ ≠ (.slice Ao68 t499.length co68 : Value).ownBlock ∧ some k_ ≠ (.slice Ao78 t507.length co78 : Value).ownBlock ∧ some k_ ≠ (.slice Ao101 t529.length co101 : Value).ownBlock) (Kd.R_keptB ((Kd.R_apart' HO522.out (Kd.R_typed HO513.out) (by decide))) hkp (fun k_ hk_ hs_ => (hk_.2) hs_)) (fun k_ hk_ => ⟨hk_.1.1.1, hk_.1.1.2.1, hk_.1.1.2.2.1, hk_.1.1.2.2.2⟩)); replace BK524 := Aside0.mk (blk_kept (bl_ BK524).out hkp (fun hs_ => (fun e_ => (Kd.R_ne HO513.out BK524.out (by decide)) e_) hs_)); replace HO531 := Aside0.mk (Kd.R_mono (ok' := fun k_ => some k_ ≠ (v488 : Value).ownBlock ∧ some k_ ≠ (.slice Ao68 t499.length co68 : Value).ownBlock ∧ some k_ ≠ (.slice Ao78 t507.length co78 : Value).ownBlock ∧ some k_ ≠ (.slice Ao89 t520.length co89 : Value).ownBlock) (Kd.R_keptB ((Kd.R_apart' HO531.out (Kd.R_typed HO513.out) (by decide))) hkp (fun k_ hk_ hs_ => (hk_.2) hs_)) (fun k_ hk_ => ⟨hk_.1.1.1, hk_.1.1.2.1, hk_.1.1.2.2.1, hk_.1.1.2.2.2⟩)); replace HO513 := Aside0.mk (Kd.R_reok rfl hy0 (fun k_ e_ => HO513.out.1 k_ e_)); replace HO535 := Aside0.mk (Kd.R_mono (ok' := fun k_ => some k_ ≠ (v494 : Value).ownBlock ∧ some k_ ≠ (.slice Ao80 t511.length co80 : Value).ownBlock) (Kd.R_keptB (HO535.out) hkp (fun k_ hk_ hs_ => (hk_.2) hs_)) (fun k_ hk_ => ⟨hk_.1.1, hk_.1.2⟩)); replace HB := Aside0.mk (hb); (try clear hb); (try clear hkp); (try clear hy0); obtain ⟨hcz108_0, hcz108_1, hcz108_2, hcz108_3, hfz108_0, hfz108_1, hfz108_2, hfz108_3⟩ := ch4_ BK524; obtain ⟨hcz109_0, hcz109_1, hcz109_2, hcz109_3, hfz109_0, hfz109_1, hfz109_2, hfz109_3⟩ := ch4_ BK503) | (go_at_call 12; (with_reducible refine (laws_eqMeasure.calls k t517 t518 t519 _ _ t520 t496 t497 t498 _ _ t499 true _ ?side1 ?side2 ?side3 ?side4 A35.out).mono ?_); (case side1 => exact ca_ (Kd.R_reads' HO522.out).2.2); (case side2 => exact (Kd.R_reads' HO522.out).2.1); (case side3 => exact ca_ (Kd.R_reads' HO501.out).2.2); (case side4 => exact (Kd.R_reads' HO501.out).2.1); rintro e w110 ⟨rfl, hb⟩; replace HO489 := rb_ HO489 hb; replace HO495 := rb_ HO495 hb; replace HO501 := rb_ HO501 hb; replace HO509 := rb_ HO509 hb; replace HO513 := rb_ HO513 hb; replace HO522 := rb_ HO522 hb; replace HO531 := rb_ HO531 hb; replace HO535 := rb_ HO535 hb; replace BK481 := bb_ BK481 hb; replace BK482 := bb_ BK482 hb; replace BK503 := bb_ BK503 hb; replace BK510 := bb_ BK510 hb; replace BK524 := bb_ BK524 hb; replace HB := bt_ HB hb; (try clear hb); obtain ⟨hcz111_0, hcz111_1, hcz111_2, hcz111_3, hfz111_0, hfz111_1, hfz111_2, hfz111_3⟩ := ch4_ BK524) | ((refine gc_ 13 ?_); refine ge_ 93 Try.func13 #[.agg #[.int .i64 t517, .int .i64 t518, .int .i64 t519, .slice Ao89 t520.length co89], .int .i64 1] ?_; (with_reducible refine (laws_markMeasure.calls k t517 t518 t519 (fun k_ => some k_ = (.slice Ao89 t520.length co89 : Value).ownBlock) (.slice Ao89 t520.length co89) t520 1 t542 t543 w _ ?side1 ?side2 A37.out).mono ?_); (case side1 => repeat (first | (with_reducible first | exact HB.out | apply below_alloc | apply pw_below_drewN | apply below_drew1 | refine below_set ?_ GW481.out | refine below_set ?_ GW482.out | refine below_set ?_ GW503.out | refine below_set ?_ GW510.out | refine below_set ?_ GW524.out) | exact HB.out)); (case side2 => exact Kd.R_tight rfl HO522.out); rintro e w112 ⟨rfl, hy0, hb, hkp⟩; refine ⟨_, rfl, ?_⟩; replace BK481 := Aside0.mk (blk_kept (bl_ BK481).out hkp (fun hs_ => (fun e_ => (Kd.R_ne HO522.out BK481.out (by decide)) e_) hs_)); replace BK482 := Aside0.mk (blk_kept (bl_ BK482).out hkp (fun hs_ => (fun e_ => (Kd.R_ne HO522.out BK482.out (by decide)) e_) hs_)); replace HO489 := Aside0.mk (Kd.R_mono (ok' := fun k_ => some k_ ≠ (.slice Ao68 t499.length co68 : Value).ownBlock ∧ some k_ ≠ (.slice Ao78 t507.length co78 : Value).ownBlock ∧ some k_ ≠ (.slice Ao89 t520.length co89 : Value).ownBlock ∧ some k_ ≠ (.slice Ao101 t529.length co101 : Value).ownBlock) (Kd.R_keptB (HO489.out) hkp (fun k_ hk_ hs_ => (hk_.2.2.1) hs_)) (fun k_ hk_ => ⟨hk_.1.1, hk_.1.2.1, hk_.1.2.2.1, hk_.1.2.2.2⟩)); replace HO495 := Aside0.mk (Kd.R_mono (ok' := fun k_ => some k_ ≠ (.slice Ao80 t511.length co80 : Value).ownBlock ∧ some k_ ≠ (.slice Ao104 t533.length co104 : Value).ownBlock) (Kd.R_keptB ((Kd.R_apart' HO495.out (Kd.R_typed HO522.out) (by decide))) hkp (fun k_ hk_ hs_ => (hk_.2) hs_)) (fun k_ hk_ => ⟨hk_.1.1.1, hk_.1.1.2⟩)); replace HO501 := Aside0.mk (Kd.R_mono (ok' := fun k_ => some k_ ≠ (v488 : Value).ownBlock ∧ some k_ ≠ (.slice Ao78 t507.length co78 : Value).ownBlock ∧ some k_ ≠ (.slice Ao89 t520.length co89 : Value).ownBlock ∧ some k_ ≠ (.slice Ao101 t529.length co101 : Value).ownBlock) (Kd.R_keptB (HO501.out) hkp (fun k_ hk_ hs_ => (hk_.2.2.1) hs_)) (fun k_ hk_ => ⟨hk_.1.1, hk_.1.2.1, hk_.1.2.2.1, hk_.1.2.2.2⟩)); replace BK503 := Aside0.mk (blk_kept (bl_ BK503).out hkp (fun hs_ => (fun e_ => (Kd.R_ne HO522.out BK503.out (by decide)) e_) hs_)); replace HO509 := Aside0.mk (Kd.R_mono (ok' := fun k_ => some k_ ≠ (v488 : Value).ownBlock ∧ some k_ ≠ (.slice Ao68 t499.length co68 : Value).ownBlock ∧ some k_ ≠ (.slice Ao89 t520.length co89 : Value).ownBlock ∧ some k_ ≠ (.slice Ao101 t529.length co101 : Value).ownBlock) (Kd.R_keptB (HO509.out) hkp (fun k_ hk_ hs_ => (hk_.2.2.1) hs_)) (fun k_ hk_ => ⟨hk_.1.1, hk_.1.2.1, hk_.1.2.2.1, hk_.1.2.2.2⟩)); replace BK510 := Aside0.mk (blk_kept (bl_ BK510).out hkp (fun hs_ => (fun e_ => (Kd.R_ne HO522.out BK510.out (by decide)) e_) hs_)); replace HO513 := Aside0.mk (Kd.R_mono (ok' := fun k_ => some k_ ≠ (v494 : Value).ownBlock ∧ some k_ ≠ (.slice Ao104 t533.length co104 : Value).ownBlock) (Kd.R_keptB ((Kd.R_apart' HO513.out (Kd.R_typed HO522.out) (by decide))) hkp (fun k_ hk_ hs_ => (hk_.2) hs_)) (fun k_ hk_ => ⟨hk_.1.1.1, hk_.1.1.2⟩)); replace BK524 := Aside0.mk (blk_kept (bl_ BK524).out hkp (fun hs_ => (fun e_ => (Kd.R_ne HO522.out BK524.out (by decide)) e_) hs_)); replace HO531 := Aside0.mk (Kd.R_mono (ok' := fun k_ => some k_ ≠ (v488 : Value).ownBlock ∧ some k_ ≠ (.slice Ao68 t499.length co68 : Value).ownBlock ∧ some k_ ≠ (.slice Ao78 t507.length co78 : Value).ownBlock ∧ some k_ ≠ (.slice Ao89 t520.length co89 : Value).ownBlock) (Kd.R_keptB (HO531.out) hkp (fun k_ hk_ hs_ => (hk_.2.2.2) hs_)) (fun k_ hk_ => ⟨hk_.1.1, hk_.1.2.1, hk_.1.2.2.1, hk_.1.2.2.2⟩)); replace HO535 := Aside0.mk (Kd.R_mono (ok' := fun k_ => some k_ ≠ (v494 : Value).ownBlock ∧ some k_ ≠ (.slice Ao80 t511.length co80 : Value).ownBlock) (Kd.R_keptB ((Kd.R_apart' HO535.out (Kd.R_typed HO522.out) (by decide))) hkp (fun k_ hk_ hs_ => (hk_.2) hs_)) (fun k_ hk_ => ⟨hk_.1.1.1, hk_.1.1.2⟩)); replace HO522 := Aside0.mk (Kd.R_reok rfl hy0 (fun k_ e_ => HO522.out.1 k_ e_)); replace HB := Aside0.mk (hb); (try clear hb); (try clear hkp); (try clear hy0); obtain ⟨hcz113_0, hcz113_1, hcz113_2, hcz113_3, hfz113_0, hfz113_1, hfz113_2, hfz113_3⟩ := ch4_ BK524) | ((refine gc_ 19 ?_); refine goesL_ (some 96) rfl rfl Try.func19 (by kernel_rfl) rfl #[.agg #[.int .i64 t517, .int .i64 t518, .int .i64 t519, .slice Ao89 t543.length co89], .int .i64 1] rfl (by (try simp only [List.map_toArray, List.map_cons, List.map_nil]); first | done | (rw [show t543.length = t520.length from (Kd.R_reads' HO522.out).1.symm] <;> rfl) | rfl | (simp only [List.length_drop, List.length_take]; rfl)) ?_; (with_reducible refine (laws_heldMeasure.calls k t517 t518 t519 _ _ t543 1 t544 _ ?side1 ?side2 A38.out).mono ?_); (case side1 => exact ca_ (Kd.R_reads' HO522.out).2.2); (case side2 => rw [show t543.length = t520.length from (Kd.R_reads' HO522.out).1.symm]; exact (Kd.R_reads' HO522.out).2.1); rintro e w114 ⟨rfl, hb⟩; refine ⟨_, rfl, ?_⟩; replace HO489 := rb_ HO489 hb; replace HO495 := rb_ HO495 hb; replace HO501 := rb_ HO501 hb; replace HO509 := rb_ HO509 hb; replace HO513 := rb_ HO513 hb; replace HO522 := rb_ HO522 hb; replace HO531 := rb_ HO531 hb; replace HO535 := rb_ HO535 hb; replace BK481 := bb_ BK481 hb; replace BK482 := bb_ BK482 hb; replace BK503 := bb_ BK503 hb; replace BK510 := bb_ BK510 hb; replace BK524 := bb_ BK524 hb; replace HB := bt_ HB hb; (try clear hb)))
 replace HO489 := Aside0.mk (Kd.R_drew HO489.out)
 replace HO495 := Aside0.mk (Kd.R_drew HO495.out)
 replace HO501 := Aside0.mk (Kd.R_drew HO501.out)
 replace HO509 := Aside0.mk (Kd.R_drew HO509.out)
 replace HO513 := Aside0.mk (Kd.R_drew HO513.out)
 replace HO522 := Aside0.mk (Kd.R_drew HO522.out)
 replace HO531 := Aside0.mk (Kd.R_drew HO531.out)
 replace HO535 := Aside0.mk (Kd.R_drew HO535.out)
 replace BK481 := bd_ BK481
 replace BK482 := bd_ BK482
 replace BK503 := bd_ BK503
 replace BK510 := bd_ BK510
 replace BK524 := bd_ BK524
 replace HB := be_ HB
 refine start_ (n := 14) (S := fun w' => w'.cell? ⟨gb481, 0, none⟩ = some (.int .i64 a1_0) ∧ w'.cell? ⟨gb481, 1, none⟩ = some (.int .i64 a1_1) ∧ w'.cell? ⟨gb481, 2, none⟩ = some (.int .i64 a1_2) ∧ w'.cell? ⟨gb481, 3, none⟩ = some (.slice A1_3 l1_3.length c1_3) ∧ w'.cell? ⟨gb482, 0, none⟩ = some (.int .i64 a2_0) ∧ w'.cell? ⟨gb482, 1, none⟩ = some (.int .i64 a2_1) ∧ w'.cell? ⟨gb482, 2, none⟩ = some (.int .i64 a2_2)) (ds := []) (bv_ 14 0) (by kernel_rfl) rfl rfl ⟨cz_ BK481 0, cz_ BK481 1, cz_ BK481 2, cz_ BK481 3, cz_ BK482 0, cz_ BK482 1, cz_ BK482 2⟩ (fun hHeld => ?_); refine with_tabW laws_FnExactRefineAt.tab30 laws_FnExactRefineAt.bits30 (fun HT_ HW_ => ?_)
 generalize w114.drew = w115 at HO489 HO495 HO501 HO509 HO513 HO522 HO531 HO535 BK481 BK482 BK503 BK510 BK524 HB hHeld ⊢
 refine px_ HT_ 0 103 1 ?_
 refine px_ HT_ 5 108 33 ?_
 refine ta_ HT_ HW_ 1 (some 104) (bv_ 14 35) hHeld ?_ (hy := by rintro w' ⟨s0, s1, s2, s3, s4, s5, s6⟩; go_simp; with_reducible rfl)
 refine ta_ HT_ HW_ 3 (some 106) (bv_ 14 43) hHeld ?_ (hy := by rintro w' ⟨s0, s1, s2, s3, s4, s5, s6⟩; go_simp; with_reducible rfl)
 refine join_ (σ := Value × Value × Value × Nat) 2 (bv_ 14 4095) (fun s_ => [(105, .agg #[.int .i64 t545, .int .i64 t546, .int .i64 t547, s_.1]), (107, .agg #[.int .i64 t551, .int .i64 t552, .int .i64 t553]), (109, s_.2.1), (110, .tuple #[.agg #[.int .i64 t557, .int .i64 t558, .int .i64 t559, s_.2.2.1], .int .i64 t563]), (19, .pointer (some ⟨s_.2.2.2, 0, none⟩)), (102, .tuple #[.agg #[.int .i64 t557, .int .i64 t558, .int .i64 t559, s_.2.2.1], .int .i64 t563]), (111, .agg #[.int .i64 t557, .int .i64 t558, .int .i64 t559, s_.2.2.1]), (112, .int .i64 t563)]) (fun s_ w' => (w'.cell? ⟨gb481, 0, none⟩ = some (.int .i64 a1_0) ∧ w'.cell? ⟨gb481, 1, none⟩ = some (.int .i64 a1_1) ∧ w'.cell? ⟨gb481, 2, none⟩ = some (.int .i64 a1_2) ∧ w'.cell? ⟨gb481, 3, none⟩ = some (.slice A1_3 l1_3.length c1_3) ∧ w'.cell? ⟨gb482, 0, none⟩ = some (.int .i64 a2_0) ∧ w'.cell? ⟨gb482, 1, none⟩ = some (.int .i64 a2_1) ∧ w'.cell? ⟨gb482, 2, none⟩ = some (.int .i64 a2_2)) ∧ (Kd.R k72 72 w' w.heap.size (fun k_ => some k_ ≠ (.slice Ao68 t499.length co68 : Value).ownBlock ∧ some k_ ≠ (.slice Ao78 t507.length co78 : Value).ownBlock ∧ some k_ ≠ (.slice Ao89 t520.length co89 : Value).ownBlock ∧ some k_ ≠ (.slice Ao101 t529.length co101 : Value).ownBlock ∧ some k_ ≠ (s_.1 : Value).ownBlock ∧ some k_ ≠ (s_.2.2.1 : Value).ownBlock) v488 t487) ∧ (Kd.R (Kd.int .i64) 2 w' w.heap.size (fun k_ => some k_ ≠ (.slice Ao80 t511.length co80 : Value).ownBlock ∧ some k_ ≠ (.slice Ao104 t533.length co104 : Value).ownBlock ∧ some k_ ≠ (s_.2.1 : Value).ownBlock) v494 t493) ∧ (Kd.R k72 72 w' w.heap.size (fun k_ => some k_ ≠ (v488 : Value).ownBlock ∧ some k_ ≠ (.slice Ao78 t507.length co78 : Value).ownBlock ∧ some k_ ≠ (.slice Ao89 t520.length co89 : Value).ownBlock ∧ some k_ ≠ (.slice Ao101 t529.length co101 : Value).ownBlock ∧ some k_ ≠ (s_.1 : Value).ownBlock ∧ some k_ ≠ (s_.2.2.1 : Value).ownBlock) (.slice Ao68 t499.length co68) t499) ∧ (Kd.R k72 72 w' w.heap.size (fun k_ => some k_ ≠ (v488 : Value).ownBlock ∧ some k_ ≠ (.slice Ao68 t499.length co68 : Value).ownBlock ∧ some k_ ≠ (.slice Ao89 t520.length co89 : Value).ownBlock ∧ some k_ ≠ (.slice Ao101 t529.length co101 : Value).ownBlock ∧ some k_ ≠ (s_.1 : Value).ownBlock ∧ some k_ ≠ (s_.2.2.1 : Value).ownBlock) (.slice Ao78 t507.length co78) t538) ∧ (Kd.R (Kd.int .i64) 2 w' w.heap.size (fun k_ => some k_ ≠ (v494 : Value).ownBlock ∧ some k_ ≠ (.slice Ao104 t533.length co104 : Value).ownBlock ∧ some k_ ≠ (s_.2.1 : Value).ownBlock) (.slice Ao80 t511.length co80) t540) ∧ (Kd.R k72 72 w' w.heap.size (fun k_ => some k_ ≠ (v488 : Value).ownBlock ∧ some k_ ≠ (.slice Ao68 t499.length co68 : Value).ownBlock ∧ some k_ ≠ (.slice Ao78 t507.length co78 : Value).ownBlock ∧ some k_ ≠ (.slice Ao101 t529.length co101 : Value).ownBlock ∧ some k_ ≠ (s_.1 : Value).ownBlock ∧ some k_ ≠ (s_.2.2.1 : Value).ownBlock) (.slice Ao89 t520.length co89) t543) ∧ (Kd.R k72 72 w' w.heap.size (fun k_ => some k_ ≠ (v488 : Value).ownBlock ∧ some k_ ≠ (.slice Ao68 t499.length co68 : Value).ownBlock ∧ some k_ ≠ (.slice Ao78 t507.length co78 : Value).ownBlock ∧ some k_ ≠ (.slice Ao89 t520.length co89 : Value).ownBlock ∧ some k_ ≠ (s_.1 : Value).ownBlock ∧ some k_ ≠ (s_.2.2.1 : Value).ownBlock) (.slice Ao101 t529.length co101) t529) ∧ (Kd.R (Kd.int .i64) 2 w' w.heap.size (fun k_ => some k_ ≠ (v494 : Value).ownBlock ∧ some k_ ≠ (.slice Ao80 t511.length co80 : Value).ownBlock ∧ some k_ ≠ (s_.2.1 : Value).ownBlock) (.slice Ao104 t533.length co104) t533) ∧ (Kd.R k72 72 w' w.heap.size (fun k_ => some k_ ≠ (v488 : Value).ownBlock ∧ some k_ ≠ (.slice Ao68 t499.length co68 : Value).ownBlock ∧ some k_ ≠ (.slice Ao78 t507.length co78 : Value).ownBlock ∧ some k_ ≠ (.slice Ao89 t520.length co89 : Value).ownBlock ∧ some k_ ≠ (.slice Ao101 t529.length co101 : Value).ownBlock ∧ some k_ ≠ (s_.2.2.1 : Value).ownBlock) s_.1 t548) ∧ (Kd.R (Kd.int .i64) 2 w' w.heap.size (fun k_ => some k_ ≠ (v494 : Value).ownBlock ∧ some k_ ≠ (.slice Ao80 t511.length co80 : Value).ownBlock ∧ some k_ ≠ (.slice Ao104 t533.length co104 : Value).ownBlock) s_.2.1 t554) ∧ (Kd.R k72 72 w' w.heap.size (fun k_ => some k_ ≠ (v488 : Value).ownBlock ∧ some k_ ≠ (.slice Ao68 t499.length co68 : Value).ownBlock ∧ some k_ ≠ (.slice Ao78 t507.length co78 : Value).ownBlock ∧ some k_ ≠ (.slice Ao89 t520.length co89 : Value).ownBlock ∧ some k_ ≠ (.slice Ao101 t529.length co101 : Value).ownBlock ∧ some k_ ≠ (s_.1 : Value).ownBlock) s_.2.2.1 t560) ∧ (w'.heap[gb481]? = some (.cells #[.int .i64 a1_0, .int .i64 a1_1, .int .i64 a1_2, .slice A1_3 l1_3.length c1_3] 26 (0, 0))) ∧ (w'.heap[gb482]? = some (.cells #[.int .i64 a2_0, .int .i64 a2_1, .int .i64 a2_2] 23 (0, 0))) ∧ (w'.heap[gb503]? = some (.cells #[.int .i64 t496, .int .i64 t497, .int .i64 t498, .slice Ao68 t499.length co68] 34 (0, 0))) ∧ (w'.heap[gb510]? = some (.cells #[.int .i64 t504, .int .i64 t505, .int .i64 t506, .slice Ao78 t507.length co78] 34 (0, 0))) ∧ (w'.heap[gb524]? = some (.cells #[.int .i64 t517, .int .i64 t518, .int .i64 t519, .slice Ao89 t520.length co89] 34 (0, 0))) ∧ (w'.heap[s_.2.2.2]? = some (.cells #[.int .i64 0, .int .i64 0, .int .i64 0, .slice none 0 0] 34 (0, 0))) ∧ (w.heap.size ≤ s_.2.2.2) ∧ (w.heap.size ≤ s_.2.2.2) ∧ (gb481 ≠ s_.2.2.2) ∧ (s_.2.2.2 ≠ gb481) ∧ (gb482 ≠ s_.2.2.2) ∧ (s_.2.2.2 ≠ gb482) ∧ (gb503 ≠ s_.2.2.2) ∧ (s_.2.2.2 ≠ gb503) ∧ (gb510 ≠ s_.2.2.2) ∧ (s_.2.2.2 ≠ gb510) ∧ (gb524 ≠ s_.2.2.2) ∧ (s_.2.2.2 ≠ gb524) ∧ (Below w.heap.size w w')) ?_ ?_
 rotate_left
 ·intro hJ2_4_6_7_11
  refine join_ (σ := Value × Value × Value) 3 (bv_ 14 2047) (fun s_ => [(105, .agg #[.int .i64 t545, .int .i64 t546, .int .i64 t547, s_.1]), (107, .agg #[.int .i64 t551, .int .i64 t552, .int .i64 t553]), (109, s_.2.1), (110, .tuple #[.agg #[.int .i64 t557, .int .i64 t558, .int .i64 t559, s_.2.2], .int .i64 t563]), (102, .tuple #[.agg #[.int .i64 t557, .int .i64 t558, .int .i64 t559, s_.2.2], .int .i64 t563]), (111, .agg #[.int .i64 t557, .int .i64 t558, .int .i64 t559, s_.2.2]), (112, .int .i64 t563)]) (fun s_ w' => (w'.cell? ⟨gb481, 0, none⟩ = some (.int .i64 a1_0) ∧ w'.cell? ⟨gb481, 1, none⟩ = some (.int .i64 a1_1) ∧ w'.cell? ⟨gb481, 2, none⟩ = some (.int .i64 a1_2) ∧ w'.cell? ⟨gb481, 3, none⟩ = some (.slice A1_3 l1_3.length c1_3) ∧ w'.cell? ⟨gb482, 0, none⟩ = some (.int .i64 a2_0) ∧ w'.cell? ⟨gb482, 1, none⟩ = some (.int .i64 a2_1) ∧ w'.cell? ⟨gb482, 2, none⟩ = some (.int .i64 a2_2)) ∧ (Kd.R k72 72 w' w.heap.size (fun k_ => some k_ ≠ (.slice Ao68 t499.length co68 : Value).ownBlock ∧ some k_ ≠ (.slice Ao78 t507.length co78 : Value).ownBlock ∧ some k_ ≠ (.slice Ao89 t520.length co89 : Value).ownBlock ∧ some k_ ≠ (.slice Ao101 t529.length co101 : Value).ownBlock ∧ some k_ ≠ (s_.1 : Value).ownBlock ∧ some k_ ≠ (s_.2.2 : Value).ownBlock) v488 t487) ∧ (Kd.R (Kd.int .i64) 2 w' w.heap.size (fun k_ => some k_ ≠ (.slice Ao80 t511.length co80 : Value).ownBlock ∧ some k_ ≠ (.slice Ao104 t533.length co104 : Value).ownBlock ∧ some k_ ≠ (s_.2.1 : Value).ownBlock) v494 t493) ∧ (Kd.R k72 72 w' w.heap.size (fun k_ => some k_ ≠ (v488 : Value).ownBlock ∧ some k_ ≠ (.slice Ao78 t507.length co78 : Value).ownBlock ∧ some k_ ≠ (.slice Ao89 t520.length co89 : Value).ownBlock ∧ some k_ ≠ (.slice Ao101 t529.length co101 : Value).ownBlock ∧ some k_ ≠ (s_.1 : Value).ownBlock ∧ some k_ ≠ (s_.2.2 : Value).ownBlock) (.slice Ao68 t499.length co68) t499) ∧ (Kd.R k72 72 w' w.heap.size (fun k_ => some k_ ≠ (v488 : Value).ownBlock ∧ some k_ ≠ (.slice Ao68 t499.length co68 : Value).ownBlock ∧ some k_ ≠ (.slice Ao89 t520.length co89 : Value).ownBlock ∧ some k_ ≠ (.slice Ao101 t529.length co101 : Value).ownBlock ∧ some k_ ≠ (s_.1 : Value).ownBlock ∧ some k_ ≠ (s_.2.2 : Value).ownBlock) (.slice Ao78 t507.length co78) t538) ∧ (Kd.R (Kd.int .i64) 2 w' w.heap.size (fun k_ => some k_ ≠ (v494 : Value).ownBlock ∧ some k_ ≠ (.slice Ao104 t533.length co104 : Value).ownBlock ∧ some k_ ≠ (s_.2.1 : Value).ownBlock) (.slice Ao80 t511.length co80) t540) ∧ (Kd.R k72 72 w' w.heap.size (fun k_ => some k_ ≠ (v488 : Value).ownBlock ∧ some k_ ≠ (.slice Ao68 t499.length co68 : Value).ownBlock ∧ some k_ ≠ (.slice Ao78 t507.length co78 : Value).ownBlock ∧ some k_ ≠ (.slice Ao101 t529.length co101 : Value).ownBlock ∧ some k_ ≠ (s_.1 : Value).ownBlock ∧ some k_ ≠ (s_.2.2 : Value).ownBlock) (.slice Ao89 t520.length co89) t543) ∧ (Kd.R k72 72 w' w.heap.size (fun k_ => some k_ ≠ (v488 : Value).ownBlock ∧ some k_ ≠ (.slice Ao68 t499.length co68 : Value).ownBlock ∧ some k_ ≠ (.slice Ao78 t507.length co78 : Value).ownBlock ∧ some k_ ≠ (.slice Ao89 t520.length co89 : Value).ownBlock ∧ some k_ ≠ (s_.1 : Value).ownBlock ∧ some k_ ≠ (s_.2.2 : Value).ownBlock) (.slice Ao101 t529.length co101) t529) ∧ (Kd.R (Kd.int .i64) 2 w' w.heap.size (fun k_ => some k_ ≠ (v494 : Value).ownBlock ∧ some k_ ≠ (.slice Ao80 t511.length co80 : Value).ownBlock ∧ some k_ ≠ (s_.2.1 : Value).ownBlock) (.slice Ao104 t533.length co104) t533) ∧ (Kd.R k72 72 w' w.heap.size (fun k_ => some k_ ≠ (v488 : Value).ownBlock ∧ some k_ ≠ (.slice Ao68 t499.length co68 : Value).ownBlock ∧ some k_ ≠ (.slice Ao78 t507.length co78 : Value).ownBlock ∧ some k_ ≠ (.slice Ao89 t520.length co89 : Value).ownBlock ∧ some k_ ≠ (.slice Ao101 t529.length co101 : Value).ownBlock ∧ some k_ ≠ (s_.2.2 : Value).ownBlock) s_.1 t548) ∧ (Kd.R (Kd.int .i64) 2 w' w.heap.size (fun k_ => some k_ ≠ (v494 : Value).ownBlock ∧ some k_ ≠ (.slice Ao80 t511.length co80 : Value).ownBlock ∧ some k_ ≠ (.slice Ao104 t533.length co104 : Value).ownBlock) s_.2.1 t554) ∧ (Kd.R k72 72 w' w.heap.size (fun k_ => some k_ ≠ (v488 : Value).ownBlock ∧ some k_ ≠ (.slice Ao68 t499.length co68 : Value).ownBlock ∧ some k_ ≠ (.slice Ao78 t507.length co78 : Value).ownBlock ∧ some k_ ≠ (.slice Ao89 t520.length co89 : Value).ownBlock ∧ some k_ ≠ (.slice Ao101 t529.length co101 : Value).ownBlock ∧ some k_ ≠ (s_.1 : Value).ownBlock) s_.2.2 t560) ∧ (w'.heap[gb481]? = some (.cells #[.int .i64 a1_0, .int .i64 a1_1, .int .i64 a1_2, .slice A1_3 l1_3.length c1_3] 26 (0, 0))) ∧ (w'.heap[gb482]? = some (.cells #[.int .i64 a2_0, .int .i64 a2_1, .int .i64 a2_2] 23 (0, 0))) ∧ (w'.heap[gb503]? = some (.cells #[.int .i64 t496, .int .i64 t497, .int .i64 t498, .slice Ao68 t499.length co68] 34 (0, 0))) ∧ (w'.heap[gb510]? = some (.cells #[.int .i64 t504, .int .i64 t505, .int .i64 t506, .slice Ao78 t507.length co78] 34 (0, 0))) ∧ (w'.heap[gb524]? = some (.cells #[.int .i64 t517, .int .i64 t518, .int .i64 t519, .slice Ao89 t520.length co89] 34 (0, 0))) ∧ (Below w.heap.size w w')) ?_ ?_
  rotate_left
  ·intro hJ2_4_6_7
   refine join_ (σ := Value × Value × Nat) 6 (bv_ 14 2175) (fun s_ => [(105, .agg #[.int .i64 t545, .int .i64 t546, .int .i64 t547, s_.1]), (107, .agg #[.int .i64 t551, .int .i64 t552, .int .i64 t553]), (109, s_.2.1), (19, .pointer (some ⟨s_.2.2, 0, none⟩))]) (fun s_ w' => (w'.cell? ⟨gb481, 0, none⟩ = some (.int .i64 a1_0) ∧ w'.cell? ⟨gb481, 1, none⟩ = some (.int .i64 a1_1) ∧ w'.cell? ⟨gb481, 2, none⟩ = some (.int .i64 a1_2) ∧ w'.cell? ⟨gb481, 3, none⟩ = some (.slice A1_3 l1_3.length c1_3) ∧ w'.cell? ⟨gb482, 0, none⟩ = some (.int .i64 a2_0) ∧ w'.cell? ⟨gb482, 1, none⟩ = some (.int .i64 a2_1) ∧ w'.cell? ⟨gb482, 2, none⟩ = some (.int .i64 a2_2)) ∧ (Kd.R k72 72 w' w.heap.size (fun k_ => some k_ ≠ (.slice Ao68 t499.length co68 : Value).ownBlock ∧ some k_ ≠ (.slice Ao78 t507.length co78 : Value).ownBlock ∧ some k_ ≠ (.slice Ao89 t520.length co89 : Value).ownBlock ∧ some k_ ≠ (.slice Ao101 t529.length co101 : Value).ownBlock ∧ some k_ ≠ (s_.1 : Value).ownBlock) v488 t487) ∧ (Kd.R (Kd.int .i64) 2 w' w.heap.size (fun k_ => some k_ ≠ (.slice Ao80 t511.length co80 : Value).ownBlock ∧ some k_ ≠ (.slice Ao104 t533.length co104 : Value).ownBlock ∧ some k_ ≠ (s_.2.1 : Value).ownBlock) v494 t493) ∧ (Kd.R k72 72 w' w.heap.size (fun k_ => some k_ ≠ (v488 : Value).ownBlock ∧ some k_ ≠ (.slice Ao78 t507.length co78 : Value).ownBlock ∧ some k_ ≠ (.slice Ao89 t520.length co89 : Value).ownBlock ∧ some k_ ≠ (.slice Ao101 t529.length co101 : Value).ownBlock ∧ some k_ ≠ (s_.1 : Value).ownBlock) (.slice Ao68 t499.length co68) t499) ∧ (Kd.R k72 72 w' w.heap.size (fun k_ => some k_ ≠ (v488 : Value).ownBlock ∧ some k_ ≠ (.slice Ao68 t499.length co68 : Value).ownBlock ∧ some k_ ≠ (.slice Ao89 t520.length co89 : Value).ownBlock ∧ some k_ ≠ (.slice Ao101 t529.length co101 : Value).ownBlock ∧ some k_ ≠ (s_.1 : Value).ownBlock) (.slice Ao78 t507.length co78) t538) ∧ (Kd.R (Kd.int .i64) 2 w' w.heap.size (fun k_ => some k_ ≠ (v494 : Value).ownBlock ∧ some k_ ≠ (.slice Ao104 t533.length co104 : Value).ownBlock ∧ some k_ ≠ (s_.2.1 : Value).ownBlock) (.slice Ao80 t511.length co80) t540) ∧ (Kd.R k72 72 w' w.heap.size (fun k_ => some k_ ≠ (v488 : Value).ownBlock ∧ some k_ ≠ (.slice Ao68 t499.length co68 : Value).ownBlock ∧ some k_ ≠ (.slice Ao78 t507.length co78 : Value).ownBlock ∧ some k_ ≠ (.slice Ao101 t529.length co101 : Value).ownBlock ∧ some k_ ≠ (s_.1 : Value).ownBlock) (.slice Ao89 t520.length co89) t543) ∧ (Kd.R k72 72 w' w.heap.size (fun k_ => some k_ ≠ (v488 : Value).ownBlock ∧ some k_ ≠ (.slice Ao68 t499.length co68 : Value).ownBlock ∧ some k_ ≠ (.slice Ao78 t507.length co78 : Value).ownBlock ∧ some k_ ≠ (.slice Ao89 t520.length co89 : Value).ownBlock ∧ some k_ ≠ (s_.1 : Value).ownBlock) (.slice Ao101 t529.length co101) t529) ∧ (Kd.R (Kd.int .i64) 2 w' w.heap.size (fun k_ => some k_ ≠ (v494 : Value).ownBlock ∧ some k_ ≠ (.slice Ao80 t511.length co80 : Value).ownBlock ∧ some k_ ≠ (s_.2.1 : Value).ownBlock) (.slice Ao104 t533.length co104) t533) ∧ (Kd.R k72 72 w' w.heap.size (fun k_ => some k_ ≠ (v488 : Value).ownBlock ∧ some k_ ≠ (.slice Ao68 t499.length co68 : Value).ownBlock ∧ some k_ ≠ (.slice Ao78 t507.length co78 : Value).ownBlock ∧ some k_ ≠ (.slice Ao89 t520.length co89 : Value).ownBlock ∧ some k_ ≠ (.slice Ao101 t529.length co101 : Value).ownBlock) s_.1 t548) ∧ (Kd.R (Kd.int .i64) 2 w' w.heap.size (fun k_ => some k_ ≠ (v494 : Value).ownBlock ∧ some k_ ≠ (.slice Ao80 t511.length co80 : Value).ownBlock ∧ some k_ ≠ (.slice Ao104 t533.length co104 : Value).ownBlock) s_.2.1 t554) ∧ (w'.heap[gb481]? = some (.cells #[.int .i64 a1_0, .int .i64 a1_1, .int .i64 a1_2, .slice A1_3 l1_3.length c1_3] 26 (0, 0))) ∧ (w'.heap[gb482]? = some (.cells #[.int .i64 a2_0, .int .i64 a2_1, .int .i64 a2_2] 23 (0, 0))) ∧ (w'.heap[gb503]? = some (.cells #[.int .i64 t496, .int .i64 t497, .int .i64 t498, .slice Ao68 t499.length co68] 34 (0, 0))) ∧ (w'.heap[gb510]? = some (.cells #[.int .i64 t504, .int .i64 t505, .int .i64 t506, .slice Ao78 t507.length co78] 34 (0, 0))) ∧ (w'.heap[gb524]? = some (.cells #[.int .i64 t517, .int .i64 t518, .int .i64 t519, .slice Ao89 t520.length co89] 34 (0, 0))) ∧ (w'.heap[s_.2.2]? = some (.cells #[.int .i64 0, .int .i64 0, .int .i64 0, .slice none 0 0] 34 (0, 0))) ∧ (w.heap.size ≤ s_.2.2) ∧ (w.heap.size ≤ s_.2.2) ∧ (gb481 ≠ s_.2.2) ∧ (s_.2.2 ≠ gb481) ∧ (gb482 ≠ s_.2.2) ∧ (s_.2.2 ≠ gb482) ∧ (gb503 ≠ s_.2.2) ∧ (s_.2.2 ≠ gb503) ∧ (gb510 ≠ s_.2.2) ∧ (s_.2.2 ≠ gb510) ∧ (gb524 ≠ s_.2.2) ∧ (s_.2.2 ≠ gb524) ∧ (Below w.heap.size w w')) ?_ ?_
   rotate_left
   ·intro hJ2_4_6_11
    refine join_ (σ := Value × Value) 7 (bv_ 14 127) (fun s_ => [(105, .agg #[.int .i64 t545, .int .i64 t546, .int .i64 t547, s_.1]), (107, .agg #[.int .i64 t551, .int .i64 t552, .int .i64 t553]), (109, s_.2)]) (fun s_ w' => (w'.cell? ⟨gb481, 0, none⟩ = some (.int .i64 a1_0) ∧ w'.cell? ⟨gb481, 1, none⟩ = some (.int .i64 a1_1) ∧ w'.cell? ⟨gb481, 2, none⟩ = some (.int .i64 a1_2) ∧ w'.cell? ⟨gb481, 3, none⟩ = some (.slice A1_3 l1_3.length c1_3) ∧ w'.cell? ⟨gb482, 0, none⟩ = some (.int .i64 a2_0) ∧ w'.cell? ⟨gb482, 1, none⟩ = some (.int .i64 a2_1) ∧ w'.cell? ⟨gb482, 2, none⟩ = some (.int .i64 a2_2)) ∧ (Kd.R k72 72 w' w.heap.size (fun k_ => some k_ ≠ (.slice Ao68 t499.length co68 : Value).ownBlock ∧ some k_ ≠ (.slice Ao78 t507.length co78 : Value).ownBlock ∧ some k_ ≠ (.slice Ao89 t520.length co89 : Value).ownBlock ∧ some k_ ≠ (.slice Ao101 t529.length co101 : Value).ownBlock ∧ some k_ ≠ (s_.1 : Value).ownBlock) v488 t487) ∧ (Kd.R (Kd.int .i64) 2 w' w.heap.size (fun k_ => some k_ ≠ (.slice Ao80 t511.length co80 : Value).ownBlock ∧ some k_ ≠ (.slice Ao104 t533.length co104 : Value).ownBlock ∧ some k_ ≠ (s_.2 : Value).ownBlock) v494 t493) ∧ (Kd.R k72 72 w' w.heap.size (fun k_ => some k_ ≠ (v488 : Value).ownBlock ∧ some k_ ≠ (.slice Ao78 t507.length co78 : Value).ownBlock ∧ some k_ ≠ (.slice Ao89 t520.length co89 : Value).ownBlock ∧ some k_ ≠ (.slice Ao101 t529.length co101 : Value).ownBlock ∧ some k_ ≠ (s_.1 : Value).ownBlock) (.slice Ao68 t499.length co68) t499) ∧ (Kd.R k72 72 w' w.heap.size (fun k_ => some k_ ≠ (v488 : Value).ownBlock ∧ some k_ ≠ (.slice Ao68 t499.length co68 : Value).ownBlock ∧ some k_ ≠ (.slice Ao89 t520.length co89 : Value).ownBlock ∧ some k_ ≠ (.slice Ao101 t529.length co101 : Value).ownBlock ∧ some k_ ≠ (s_.1 : Value).ownBlock) (.slice Ao78 t507.length co78) t538) ∧ (Kd.R (Kd.int .i64) 2 w' w.heap.size (fun k_ => some k_ ≠ (v494 : Value).ownBlock ∧ some k_ ≠ (.slice Ao104 t533.length co104 : Value).ownBlock ∧ some k_ ≠ (s_.2 : Value).ownBlock) (.slice Ao80 t511.length co80) t540) ∧ (Kd.R k72 72 w' w.heap.size (fun k_ => some k_ ≠ (v488 : Value).ownBlock ∧ some k_ ≠ (.slice Ao68 t499.length co68 : Value).ownBlock ∧ some k_ ≠ (.slice Ao78 t507.length co78 : Value).ownBlock ∧ some k_ ≠ (.slice Ao101 t529.length co101 : Value).ownBlock ∧ some k_ ≠ (s_.1 : Value).ownBlock) (.slice Ao89 t520.length co89) t543) ∧ (Kd.R k72 72 w' w.heap.size (fun k_ => some k_ ≠ (v488 : Value).ownBlock ∧ some k_ ≠ (.slice Ao68 t499.length co68 : Value).ownBlock ∧ some k_ ≠ (.slice Ao78 t507.length co78 : Value).ownBlock ∧ some k_ ≠ (.slice Ao89 t520.length co89 : Value).ownBlock ∧ some k_ ≠ (s_.1 : Value).ownBlock) (.slice Ao101 t529.length co101) t529) ∧ (Kd.R (Kd.int .i64) 2 w' w.heap.size (fun k_ => some k_ ≠ (v494 : Value).ownBlock ∧ some k_ ≠ (.slice Ao80 t511.length co80 : Value).ownBlock ∧ some k_ ≠ (s_.2 : Value).ownBlock) (.slice Ao104 t533.length co104) t533) ∧ (Kd.R k72 72 w' w.heap.size (fun k_ => some k_ ≠ (v488 : Value).ownBlock ∧ some k_ ≠ (.slice Ao68 t499.length co68 : Value).ownBlock ∧ some k_ ≠ (.slice Ao78 t507.length co78 : Value).ownBlock ∧ some k_ ≠ (.slice Ao89 t520.length co89 : Value).ownBlock ∧ some k_ ≠ (.slice Ao101 t529.length co101 : Value).ownBlock) s_.1 t548) ∧ (Kd.R (Kd.int .i64) 2 w' w.heap.size (fun k_ => some k_ ≠ (v494 : Value).ownBlock ∧ some k_ ≠ (.slice Ao80 t511.length co80 : Value).ownBlock ∧ some k_ ≠ (.slice Ao104 t533.length co104 : Value).ownBlock) s_.2 t554) ∧ (w'.heap[gb481]? = some (.cells #[.int .i64 a1_0, .int .i64 a1_1, .int .i64 a1_2, .slice A1_3 l1_3.length c1_3] 26 (0, 0))) ∧ (w'.heap[gb482]? = some (.cells #[.int .i64 a2_0, .int .i64 a2_1, .int .i64 a2_2] 23 (0, 0))) ∧ (w'.heap[gb503]? = some (.cells #[.int .i64 t496, .int .i64 t497, .int .i64 t498, .slice Ao68 t499.length co68] 34 (0, 0))) ∧ (w'.heap[gb510]? = some (.cells #[.int .i64 t504, .int .i64 t505, .int .i64 t506, .slice Ao78 t507.length co78] 34 (0, 0))) ∧ (w'.heap[gb524]? = some (.cells #[.int .i64 t517, .int .i64 t518, .int .i64 t519, .slice Ao89 t520.length co89] 34 (0, 0))) ∧ (Below w.heap.size w w')) ?_ ?_
    rotate_left
    ·intro hJ2_4_6
     refine join_ (σ := Value × Nat) 7 (bv_ 14 2111) (fun s_ => [(105, .agg #[.int .i64 t545, .int .i64 t546, .int .i64 t547, s_.1]), (107, .agg #[.int .i64 t551, .int .i64 t552, .int .i64 t553]), (19, .pointer (some ⟨s_.2, 0, none⟩))]) (fun s_ w' => (w'.cell? ⟨gb481, 0, none⟩ = some (.int .i64 a1_0) ∧ w'.cell? ⟨gb481, 1, none⟩ = some (.int .i64 a1_1) ∧ w'.cell? ⟨gb481, 2, none⟩ = some (.int .i64 a1_2) ∧ w'.cell? ⟨gb481, 3, none⟩ = some (.slice A1_3 l1_3.length c1_3) ∧ w'.cell? ⟨gb482, 0, none⟩ = some (.int .i64 a2_0) ∧ w'.cell? ⟨gb482, 1, none⟩ = some (.int .i64 a2_1) ∧ w'.cell? ⟨gb482, 2, none⟩ = some (.int .i64 a2_2)) ∧ (Kd.R k72 72 w' w.heap.size (fun k_ => some k_ ≠ (.slice Ao68 t499.length co68 : Value).ownBlock ∧ some k_ ≠ (.slice Ao78 t507.length co78 : Value).ownBlock ∧ some k_ ≠ (.slice Ao89 t520.length co89 : Value).ownBlock ∧ some k_ ≠ (.slice Ao101 t529.length co101 : Value).ownBlock ∧ some k_ ≠ (s_.1 : Value).ownBlock) v488 t487) ∧ (Kd.R (Kd.int .i64) 2 w' w.heap.size (fun k_ => some k_ ≠ (.slice Ao80 t511.length co80 : Value).ownBlock ∧ some k_ ≠ (.slice Ao104 t533.length co104 : Value).ownBlock) v494 t493) ∧ (Kd.R k72 72 w' w.heap.size (fun k_ => some k_ ≠ (v488 : Value).ownBlock ∧ some k_ ≠ (.slice Ao78 t507.length co78 : Value).ownBlock ∧ some k_ ≠ (.slice Ao89 t520.length co89 : Value).ownBlock ∧ some k_ ≠ (.slice Ao101 t529.length co101 : Value).ownBlock ∧ some k_ ≠ (s_.1 : Value).ownBlock) (.slice Ao68 t499.length co68) t499) ∧ (Kd.R k72 72 w' w.heap.size (fun k_ => some k_ ≠ (v488 : Value).ownBlock ∧ some k_ ≠ (.slice Ao68 t499.length co68 : Value).ownBlock ∧ some k_ ≠ (.slice Ao89 t520.length co89 : Value).ownBlock ∧ some k_ ≠ (.slice Ao101 t529.length co101 : Value).ownBlock ∧ some k_ ≠ (s_.1 : Value).ownBlock) (.slice Ao78 t507.length co78) t538) ∧ (Kd.R (Kd.int .i64) 2 w' w.heap.size (fun k_ => some k_ ≠ (v494 : Value).ownBlock ∧ some k_ ≠ (.slice Ao104 t533.length co104 : Value).ownBlock) (.slice Ao80 t511.length co80) t540) ∧ (Kd.R k72 72 w' w.heap.size (fun k_ => some k_ ≠ (v488 : Value).ownBlock ∧ some k_ ≠ (.slice Ao68 t499.length co68 : Value).ownBlock ∧ some k_ ≠ (.slice Ao78 t507.length co78 : Value).ownBlock ∧ some k_ ≠ (.slice Ao101 t529.length co101 : Value).ownBlock ∧ some k_ ≠ (s_.1 : Value).ownBlock) (.slice Ao89 t520.length co89) t543) ∧ (Kd.R k72 72 w' w.heap.size (fun k_ => some k_ ≠ (v488 : Value).ownBlock ∧ some k_ ≠ (.slice Ao68 t499.length co68 : Value).ownBlock ∧ some k_ ≠ (.slice Ao78 t507.length co78 : Value).ownBlock ∧ some k_ ≠ (.slice Ao89 t520.length co89 : Value).ownBlock ∧ some k_ ≠ (s_.1 : Value).ownBlock) (.slice Ao101 t529.length co101) t529) ∧ (Kd.R (Kd.int .i64) 2 w' w.heap.size (fun k_ => some k_ ≠ (v494 : Value).ownBlock ∧ some k_ ≠ (.slice Ao80 t511.length co80 : Value).ownBlock) (.slice Ao104 t533.length co104) t533) ∧ (Kd.R k72 72 w' w.heap.size (fun k_ => some k_ ≠ (v488 : Value).ownBlock ∧ some k_ ≠ (.slice Ao68 t499.length co68 : Value).ownBlock ∧ some k_ ≠ (.slice Ao78 t507.length co78 : Value).ownBlock ∧ some k_ ≠ (.slice Ao89 t520.length co89 : Value).ownBlock ∧ some k_ ≠ (.slice Ao101 t529.length co101 : Value).ownBlock) s_.1 t548) ∧ (w'.heap[gb481]? = some (.cells #[.int .i64 a1_0, .int .i64 a1_1, .int .i64 a1_2, .slice A1_3 l1_3.length c1_3] 26 (0, 0))) ∧ (w'.heap[gb482]? = some (.cells #[.int .i64 a2_0, .int .i64 a2_1, .int .i64 a2_2] 23 (0, 0))) ∧ (w'.heap[gb503]? = some (.cells #[.int .i64 t496, .int .i64 t497, .int .i64 t498, .slice Ao68 t499.length co68] 34 (0, 0))) ∧ (w'.heap[gb510]? = some (.cells #[.int .i64 t504, .int .i64 t505, .int .i64 t506, .slice Ao78 t507.length co78] 34 (0, 0))) ∧ (w'.heap[gb524]? = some (.cells #[.int .i64 t517, .int .i64 t518, .int .i64 t519, .slice Ao89 t520.length co89] 34 (0, 0))) ∧ (w'.heap[s_.2]? = some (.cells #[.int .i64 0, .int .i64 0, .int .i64 0, .slice none 0 0] 34 (0, 0))) ∧ (w.heap.size ≤ s_.2) ∧ (w.heap.size ≤ s_.2) ∧ (gb481 ≠ s_.2) ∧ (s_.2 ≠ gb481) ∧ (gb482 ≠ s_.2) ∧ (s_.2 ≠ gb482) ∧ (gb503 ≠ s_.2) ∧ (s_.2 ≠ gb503) ∧ (gb510 ≠ s_.2) ∧ (s_.2 ≠ gb510) ∧ (gb524 ≠ s_.2) ∧ (s_.2 ≠ gb524) ∧ (Below w.heap.size w w')) ?_ ?_
     rotate_left
     ·intro hJ2_4_11
      refine join_ (σ := Value) 8 (bv_ 14 63) (fun s_ => [(105, .agg #[.int .i64 t545, .int .i64 t546, .int .i64 t547, s_]), (107, .agg #[.int .i64 t551, .int .i64 t552, .int .i64 t553])]) (fun s_ w' => (w'.cell? ⟨gb481, 0, none⟩ = some (.int .i64 a1_0) ∧ w'.cell? ⟨gb481, 1, none⟩ = some (.int .i64 a1_1) ∧ w'.cell? ⟨gb481, 2, none⟩ = some (.int .i64 a1_2) ∧ w'.cell? ⟨gb481, 3, none⟩ = some (.slice A1_3 l1_3.length c1_3) ∧ w'.cell? ⟨gb482, 0, none⟩ = some (.int .i64 a2_0) ∧ w'.cell? ⟨gb482, 1, none⟩ = some (.int .i64 a2_1) ∧ w'.cell? ⟨gb482, 2, none⟩ = some (.int .i64 a2_2)) ∧ (Kd.R k72 72 w' w.heap.size (fun k_ => some k_ ≠ (.slice Ao68 t499.length co68 : Value).ownBlock ∧ some k_ ≠ (.slice Ao78 t507.length co78 : Value).ownBlock ∧ some k_ ≠ (.slice Ao89 t520.length co89 : Value).ownBlock ∧ some k_ ≠ (.slice Ao101 t529.length co101 : Value).ownBlock ∧ some k_ ≠ (s_ : Value).ownBlock) v488 t487) ∧ (Kd.R (Kd.int .i64) 2 w' w.heap.size (fun k_ => some k_ ≠ (.slice Ao80 t511.length co80 : Value).ownBlock ∧ some k_ ≠ (.slice Ao104 t533.length co104 : Value).ownBlock) v494 t493) ∧ (Kd.R k72 72 w' w.heap.size (fun k_ => some k_ ≠ (v488 : Value).ownBlock ∧ some k_ ≠ (.slice Ao78 t507.length co78 : Value).ownBlock ∧ some k_ ≠ (.slice Ao89 t520.length co89 : Value).ownBlock ∧ some k_ ≠ (.slice Ao101 t529.length co101 : Value).ownBlock ∧ some k_ ≠ (s_ : Value).ownBlock) (.slice Ao68 t499.length co68) t499) ∧ (Kd.R k72 72 w' w.heap.size (fun k_ => some k_ ≠ (v488 : Value).ownBlock ∧ some k_ ≠ (.slice Ao68 t499.length co68 : Value).ownBlock ∧ some k_ ≠ (.slice Ao89 t520.length co89 : Value).ownBlock ∧ some k_ ≠ (.slice Ao101 t529.length co101 : Value).ownBlock ∧ some k_ ≠ (s_ : Value).ownBlock) (.slice Ao78 t507.length co78) t538) ∧ (Kd.R (Kd.int .i64) 2 w' w.heap.size (fun k_ => some k_ ≠ (v494 : Value).ownBlock ∧ some k_ ≠ (.slice Ao104 t533.length co104 : Value).ownBlock) (.slice Ao80 t511.length co80) t540) ∧ (Kd.R k72 72 w' w.heap.size (fun k_ => some k_ ≠ (v488 : Value).ownBlock ∧ some k_ ≠ (.slice Ao68 t499.length co68 : Value).ownBlock ∧ some k_ ≠ (.slice Ao78 t507.length co78 : Value).ownBlock ∧ some k_ ≠ (.slice Ao101 t529.length co101 : Value).ownBlock ∧ some k_ ≠ (s_ : Value).ownBlock) (.slice Ao89 t520.length co89) t543) ∧ (Kd.R k72 72 w' w.heap.size (fun k_ => some k_ ≠ (v488 : Value).ownBlock ∧ some k_ ≠ (.slice Ao68 t499.length co68 : Value).ownBlock ∧ some k_ ≠ (.slice Ao78 t507.length co78 : Value).ownBlock ∧ some k_ ≠ (.slice Ao89 t520.length co89 : Value).ownBlock ∧ some k_ ≠ (s_ : Value).ownBlock) (.slice Ao101 t529.length co101) t529) ∧ (Kd.R (Kd.int .i64) 2 w' w.heap.size (fun k_ => some k_ ≠ (v494 : Value).ownBlock ∧ some k_ ≠ (.slice Ao80 t511.length co80 : Value).ownBlock) (.slice Ao104 t533.length co104) t533) ∧ (Kd.R k72 72 w' w.heap.size (fun k_ => some k_ ≠ (v488 : Value).ownBlock ∧ some k_ ≠ (.slice Ao68 t499.length co68 : Value).ownBlock ∧ some k_ ≠ (.slice Ao78 t507.length co78 : Value).ownBlock ∧ some k_ ≠ (.slice Ao89 t520.length co89 : Value).ownBlock ∧ some k_ ≠ (.slice Ao101 t529.length co101 : Value).ownBlock) s_ t548) ∧ (w'.heap[gb481]? = some (.cells #[.int .i64 a1_0, .int .i64 a1_1, .int .i64 a1_2, .slice A1_3 l1_3.length c1_3] 26 (0, 0))) ∧ (w'.heap[gb482]? = some (.cells #[.int .i64 a2_0, .int .i64 a2_1, .int .i64 a2_2] 23 (0, 0))) ∧ (w'.heap[gb503]? = some (.cells #[.int .i64 t496, .int .i64 t497, .int .i64 t498, .slice Ao68 t499.length co68] 34 (0, 0))) ∧ (w'.heap[gb510]? = some (.cells #[.int .i64 t504, .int .i64 t505, .int .i64 t506, .slice Ao78 t507.length co78] 34 (0, 0))) ∧ (w'.heap[gb524]? = some (.cells #[.int .i64 t517, .int .i64 t518, .int .i64 t519, .slice Ao89 t520.length co89] 34 (0, 0))) ∧ (Below w.heap.size w w')) ?_ ?_
      rotate_left
      ·intro hJ2_4
       refine join_ (σ := Value × Nat) 8 (bv_ 14 2095) (fun s_ => [(105, .agg #[.int .i64 t545, .int .i64 t546, .int .i64 t547, s_.1]), (19, .pointer (some ⟨s_.2, 0, none⟩))]) (fun s_ w' => (w'.cell? ⟨gb481, 0, none⟩ = some (.int .i64 a1_0) ∧ w'.cell? ⟨gb481, 1, none⟩ = some (.int .i64 a1_1) ∧ w'.cell? ⟨gb481, 2, none⟩ = some (.int .i64 a1_2) ∧ w'.cell? ⟨gb481, 3, none⟩ = some (.slice A1_3 l1_3.length c1_3) ∧ w'.cell? ⟨gb482, 0, none⟩ = some (.int .i64 a2_0) ∧ w'.cell? ⟨gb482, 1, none⟩ = some (.int .i64 a2_1) ∧ w'.cell? ⟨gb482, 2, none⟩ = some (.int .i64 a2_2)) ∧ (Kd.R k72 72 w' w.heap.size (fun k_ => some k_ ≠ (.slice Ao68 t499.length co68 : Value).ownBlock ∧ some k_ ≠ (.slice Ao78 t507.length co78 : Value).ownBlock ∧ some k_ ≠ (.slice Ao89 t520.length co89 : Value).ownBlock ∧ some k_ ≠ (.slice Ao101 t529.length co101 : Value).ownBlock ∧ some k_ ≠ (s_.1 : Value).ownBlock) v488 t487) ∧ (Kd.R (Kd.int .i64) 2 w' w.heap.size (fun k_ => some k_ ≠ (.slice Ao80 t511.length co80 : Value).ownBlock ∧ some k_ ≠ (.slice Ao104 t533.length co104 : Value).ownBlock) v494 t493) ∧ (Kd.R k72 72 w' w.heap.size (fun k_ => some k_ ≠ (v488 : Value).ownBlock ∧ some k_ ≠ (.slice Ao78 t507.length co78 : Value).ownBlock ∧ some k_ ≠ (.slice Ao89 t520.length co89 : Value).ownBlock ∧ some k_ ≠ (.slice Ao101 t529.length co101 : Value).ownBlock ∧ some k_ ≠ (s_.1 : Value).ownBlock) (.slice Ao68 t499.length co68) t499) ∧ (Kd.R k72 72 w' w.heap.size (fun k_ => some k_ ≠ (v488 : Value).ownBlock ∧ some k_ ≠ (.slice Ao68 t499.length co68 : Value).ownBlock ∧ some k_ ≠ (.slice Ao89 t520.length co89 : Value).ownBlock ∧ some k_ ≠ (.slice Ao101 t529.length co101 : Value).ownBlock ∧ some k_ ≠ (s_.1 : Value).ownBlock) (.slice Ao78 t507.length co78) t538) ∧ (Kd.R (Kd.int .i64) 2 w' w.heap.size (fun k_ => some k_ ≠ (v494 : Value).ownBlock ∧ some k_ ≠ (.slice Ao104 t533.length co104 : Value).ownBlock) (.slice Ao80 t511.length co80) t540) ∧ (Kd.R k72 72 w' w.heap.size (fun k_ => some k_ ≠ (v488 : Value).ownBlock ∧ some k_ ≠ (.slice Ao68 t499.length co68 : Value).ownBlock ∧ some k_ ≠ (.slice Ao78 t507.length co78 : Value).ownBlock ∧ some k_ ≠ (.slice Ao101 t529.length co101 : Value).ownBlock ∧ some k_ ≠ (s_.1 : Value).ownBlock) (.slice Ao89 t520.length co89) t543) ∧ (Kd.R k72 72 w' w.heap.size (fun k_ => some k_ ≠ (v488 : Value).ownBlock ∧ some k_ ≠ (.slice Ao68 t499.length co68 : Value).ownBlock ∧ some k_ ≠ (.slice Ao78 t507.length co78 : Value).ownBlock ∧ some k_ ≠ (.slice Ao89 t520.length co89 : Value).ownBlock ∧ some k_ ≠ (s_.1 : Value).ownBlock) (.slice Ao101 t529.length co101) t529) ∧ (Kd.R (Kd.int .i64) 2 w' w.heap.size (fun k_ => some k_ ≠ (v494 : Value).ownBlock ∧ some k_ ≠ (.slice Ao80 t511.length co80 : Value).ownBlock) (.slice Ao104 t533.length co104) t533) ∧ (Kd.R k72 72 w' w.heap.size (fun k_ => some k_ ≠ (v488 : Value).ownBlock ∧ some k_ ≠ (.slice Ao68 t499.length co68 : Value).ownBlock ∧ some k_ ≠ (.slice Ao78 t507.length co78 : Value).ownBlock ∧ some k_ ≠ (.slice Ao89 t520.length co89 : Value).ownBlock ∧ some k_ ≠ (.slice Ao101 t529.length co101 : Value).ownBlock) s_.1 t548) ∧ (w'.heap[gb481]? = some (.cells #[.int .i64 a1_0, .int .i64 a1_1, .int .i64 a1_2, .slice A1_3 l1_3.length c1_3] 26 (0, 0))) ∧ (w'.heap[gb482]? = some (.cells #[.int .i64 a2_0, .int .i64 a2_1, .int .i64 a2_2] 23 (0, 0))) ∧ (w'.heap[gb503]? = some (.cells #[.int .i64 t496, .int .i64 t497, .int .i64 t498, .slice Ao68 t499.length co68] 34 (0, 0))) ∧ (w'.heap[gb510]? = some (.cells #[.int .i64 t504, .int .i64 t505, .int .i64 t506, .slice Ao78 t507.length co78] 34 (0, 0))) ∧ (w'.heap[gb524]? = some (.cells #[.int .i64 t517, .int .i64 t518, .int .i64 t519, .slice Ao89 t520.length co89] 34 (0, 0))) ∧ (w'.heap[s_.2]? = some (.cells #[.int .i64 0, .int .i64 0, .int .i64 0, .slice none 0 0] 34 (0, 0))) ∧ (w.heap.size ≤ s_.2) ∧ (w.heap.size ≤ s_.2) ∧ (gb481 ≠ s_.2) ∧ (s_.2 ≠ gb481) ∧ (gb482 ≠ s_.2) ∧ (s_.2 ≠ gb482) ∧ (gb503 ≠ s_.2) ∧ (s_.2 ≠ gb503) ∧ (gb510 ≠ s_.2) ∧ (s_.2 ≠ gb510) ∧ (gb524 ≠ s_.2) ∧ (s_.2 ≠ gb524) ∧ (Below w.heap.size w w')) ?_ ?_
       rotate_left
       ·intro hJ2_11
        refine join_ (σ := Value) 9 (bv_ 14 47) (fun s_ => [(105, .agg #[.int .i64 t545, .int .i64 t546, .int .i64 t547, s_])]) (fun s_ w' => (w'.cell? ⟨gb481, 0, none⟩ = some (.int .i64 a1_0) ∧ w'.cell? ⟨gb481, 1, none⟩ = some (.int .i64 a1_1) ∧ w'.cell? ⟨gb481, 2, none⟩ = some (.int .i64 a1_2) ∧ w'.cell? ⟨gb481, 3, none⟩ = some (.slice A1_3 l1_3.length c1_3) ∧ w'.cell? ⟨gb482, 0, none⟩ = some (.int .i64 a2_0) ∧ w'.cell? ⟨gb482, 1, none⟩ = some (.int .i64 a2_1) ∧ w'.cell? ⟨gb482, 2, none⟩ = some (.int .i64 a2_2)) ∧ (Kd.R k72 72 w' w.heap.size (fun k_ => some k_ ≠ (.slice Ao68 t499.length co68 : Value).ownBlock ∧ some k_ ≠ (.slice Ao78 t507.length co78 : Value).ownBlock ∧ some k_ ≠ (.slice Ao89 t520.length co89 : Value).ownBlock ∧ some k_ ≠ (.slice Ao101 t529.length co101 : Value).ownBlock ∧ some k_ ≠ (s_ : Value).ownBlock) v488 t487) ∧ (Kd.R (Kd.int .i64) 2 w' w.heap.size (fun k_ => some k_ ≠ (.slice Ao80 t511.length co80 : Value).ownBlock ∧ some k_ ≠ (.slice Ao104 t533.length co104 : Value).ownBlock) v494 t493) ∧ (Kd.R k72 72 w' w.heap.size (fun k_ => some k_ ≠ (v488 : Value).ownBlock ∧ some k_ ≠ (.slice Ao78 t507.length co78 : Value).ownBlock ∧ some k_ ≠ (.slice Ao89 t520.length co89 : Value).ownBlock ∧ some k_ ≠ (.slice Ao101 t529.length co101 : Value).ownBlock ∧ some k_ ≠ (s_ : Value).ownBlock) (.slice Ao68 t499.length co68) t499) ∧ (Kd.R k72 72 w' w.heap.size (fun k_ => some k_ ≠ (v488 : Value).ownBlock ∧ some k_ ≠ (.slice Ao68 t499.length co68 : Value).ownBlock ∧ some k_ ≠ (.slice Ao89 t520.length co89 : Value).ownBlock ∧ some k_ ≠ (.slice Ao101 t529.length co101 : Value).ownBlock ∧ some k_ ≠ (s_ : Value).ownBlock) (.slice Ao78 t507.length co78) t538) ∧ (Kd.R (Kd.int .i64) 2 w' w.heap.size (fun k_ => some k_ ≠ (v494 : Value).ownBlock ∧ some k_ ≠ (.slice Ao104 t533.length co104 : Value).ownBlock) (.slice Ao80 t511.length co80) t540) ∧ (Kd.R k72 72 w' w.heap.size (fun k_ => some k_ ≠ (v488 : Value).ownBlock ∧ some k_ ≠ (.slice Ao68 t499.length co68 : Value).ownBlock ∧ some k_ ≠ (.slice Ao78 t507.length co78 : Value).ownBlock ∧ some k_ ≠ (.slice Ao101 t529.length co101 : Value).ownBlock ∧ some k_ ≠ (s_ : Value).ownBlock) (.slice Ao89 t520.length co89) t543) ∧ (Kd.R k72 72 w' w.heap.size (fun k_ => some k_ ≠ (v488 : Value).ownBlock ∧ some k_ ≠ (.slice Ao68 t499.length co68 : Value).ownBlock ∧ some k_ ≠ (.slice Ao78 t507.length co78 : Value).ownBlock ∧ some k_ ≠ (.slice Ao89 t520.length co89 : Value).ownBlock ∧ some k_ ≠ (s_ : Value).ownBlock) (.slice Ao101 t529.length co101) t529) ∧ (Kd.R (Kd.int .i64) 2 w' w.heap.size (fun k_ => some k_ ≠ (v494 : Value).ownBlock ∧ some k_ ≠ (.slice Ao80 t511.length co80 : Value).ownBlock) (.slice Ao104 t533.length co104) t533) ∧ (Kd.R k72 72 w' w.heap.size (fun k_ => some k_ ≠ (v488 : Value).ownBlock ∧ some k_ ≠ (.slice Ao68 t499.length co68 : Value).ownBlock ∧ some k_ ≠ (.slice Ao78 t507.length co78 : Value).ownBlock ∧ some k_ ≠ (.slice Ao89 t520.length co89 : Value).ownBlock ∧ some k_ ≠ (.slice Ao101 t529.length co101 : Value).ownBlock) s_ t548) ∧ (w'.heap[gb481]? = some (.cells #[.int .i64 a1_0, .int .i64 a1_1, .int .i64 a1_2, .slice A1_3 l1_3.length c1_3] 26 (0, 0))) ∧ (w'.heap[gb482]? = some (.cells #[.int .i64 a2_0, .int .i64 a2_1, .int .i64 a2_2] 23 (0, 0))) ∧ (w'.heap[gb503]? = some (.cells #[.int .i64 t496, .int .i64 t497, .int .i64 t498, .slice Ao68 t499.length co68] 34 (0, 0))) ∧ (w'.heap[gb510]? = some (.cells #[.int .i64 t504, .int .i64 t505, .int .i64 t506, .slice Ao78 t507.length co78] 34 (0, 0))) ∧ (w'.heap[gb524]? = some (.cells #[.int .i64 t517, .int .i64 t518, .int .i64 t519, .slice Ao89 t520.length co89] 34 (0, 0))) ∧ (Below w.heap.size w w')) ?_ ?_
        rotate_left
        ·intro hJ2
         refine join_ (σ := Nat) 9 (bv_ 14 2091) (fun s_ => [(19, .pointer (some ⟨s_, 0, none⟩))]) (fun s_ w' => (w'.cell? ⟨gb481, 0, none⟩ = some (.int .i64 a1_0) ∧ w'.cell? ⟨gb481, 1, none⟩ = some (.int .i64 a1_1) ∧ w'.cell? ⟨gb481, 2, none⟩ = some (.int .i64 a1_2) ∧ w'.cell? ⟨gb481, 3, none⟩ = some (.slice A1_3 l1_3.length c1_3) ∧ w'.cell? ⟨gb482, 0, none⟩ = some (.int .i64 a2_0) ∧ w'.cell? ⟨gb482, 1, none⟩ = some (.int .i64 a2_1) ∧ w'.cell? ⟨gb482, 2, none⟩ = some (.int .i64 a2_2)) ∧ (Kd.R k72 72 w' w.heap.size (fun k_ => some k_ ≠ (.slice Ao68 t499.length co68 : Value).ownBlock ∧ some k_ ≠ (.slice Ao78 t507.length co78 : Value).ownBlock ∧ some k_ ≠ (.slice Ao89 t520.length co89 : Value).ownBlock ∧ some k_ ≠ (.slice Ao101 t529.length co101 : Value).ownBlock) v488 t487) ∧ (Kd.R (Kd.int .i64) 2 w' w.heap.size (fun k_ => some k_ ≠ (.slice Ao80 t511.length co80 : Value).ownBlock ∧ some k_ ≠ (.slice Ao104 t533.length co104 : Value).ownBlock) v494 t493) ∧ (Kd.R k72 72 w' w.heap.size (fun k_ => some k_ ≠ (v488 : Value).ownBlock ∧ some k_ ≠ (.slice Ao78 t507.length co78 : Value).ownBlock ∧ some k_ ≠ (.slice Ao89 t520.length co89 : Value).ownBlock ∧ some k_ ≠ (.slice Ao101 t529.length co101 : Value).ownBlock) (.slice Ao68 t499.length co68) t499) ∧ (Kd.R k72 72 w' w.heap.size (fun k_ => some k_ ≠ (v488 : Value).ownBlock ∧ some k_ ≠ (.slice Ao68 t499.length co68 : Value).ownBlock ∧ some k_ ≠ (.slice Ao89 t520.length co89 : Value).ownBlock ∧ some k_ ≠ (.slice Ao101 t529.length co101 : Value).ownBlock) (.slice Ao78 t507.length co78) t538) ∧ (Kd.R (Kd.int .i64) 2 w' w.heap.size (fun k_ => some k_ ≠ (v494 : Value).ownBlock ∧ some k_ ≠ (.slice Ao104 t533.length co104 : Value).ownBlock) (.slice Ao80 t511.length co80) t540) ∧ (Kd.R k72 72 w' w.heap.size (fun k_ => some k_ ≠ (v488 : Value).ownBlock ∧ some k_ ≠ (.slice Ao68 t499.length co68 : Value).ownBlock ∧ some k_ ≠ (.slice Ao78 t507.length co78 : Value).ownBlock ∧ some k_ ≠ (.slice Ao101 t529.length co101 : Value).ownBlock) (.slice Ao89 t520.length co89) t543) ∧ (Kd.R k72 72 w' w.heap.size (fun k_ => some k_ ≠ (v488 : Value).ownBlock ∧ some k_ ≠ (.slice Ao68 t499.length co68 : Value).ownBlock ∧ some k_ ≠ (.slice Ao78 t507.length co78 : Value).ownBlock ∧ some k_ ≠ (.slice Ao89 t520.length co89 : Value).ownBlock) (.slice Ao101 t529.length co101) t529) ∧ (Kd.R (Kd.int .i64) 2 w' w.heap.size (fun k_ => some k_ ≠ (v494 : Value).ownBlock ∧ some k_ ≠ (.slice Ao80 t511.length co80 : Value).ownBlock) (.slice Ao104 t533.length co104) t533) ∧ (w'.heap[gb481]? = some (.cells #[.int .i64 a1_0, .int .i64 a1_1, .int .i64 a1_2, .slice A1_3 l1_3.length c1_3] 26 (0, 0))) ∧ (w'.heap[gb482]? = some (.cells #[.int .i64 a2_0, .int .i64 a2_1, .int .i64 a2_2] 23 (0, 0))) ∧ (w'.heap[gb503]? = some (.cells #[.int .i64 t496, .int .i64 t497, .int .i64 t498, .slice Ao68 t499.length co68] 34 (0, 0))) ∧ (w'.heap[gb510]? = some (.cells #[.int .i64 t504, .int .i64 t505, .int .i64 t506, .slice Ao78 t507.length co78] 34 (0, 0))) ∧ (w'.heap[gb524]? = some (.cells #[.int .i64 t517, .int .i64 t518, .int .i64 t519, .slice Ao89 t520.length co89] 34 (0, 0))) ∧ (w'.heap[s_]? = some (.cells #[.int .i64 0, .int .i64 0, .int .i64 0, .slice none 0 0] 34 (0, 0))) ∧ (w.heap.size ≤ s_) ∧ (w.heap.size ≤ s_) ∧ (gb481 ≠ s_) ∧ (s_ ≠ gb481) ∧ (gb482 ≠ s_) ∧ (s_ ≠ gb482) ∧ (gb503 ≠ s_) ∧ (s_ ≠ gb503) ∧ (gb510 ≠ s_) ∧ (s_ ≠ gb510) ∧ (gb524 ≠ s_) ∧ (s_ ≠ gb524) ∧ (Below w.heap.size w w')) ?_ ?_
         rotate_left
         ·intro hJ11
          refine tw_ HT_ 2 11 (some 105) (some 19) (bv_ 14 47) (bv_ 14 2091) (fun K hK => ?_) (fun K hK => ?_)
          ·skip
           refine gs_ Try.func9 #[.agg #[.int .i64 a1_0, .int .i64 a1_1, .int .i64 a1_2, .slice A1_3 l1_3.length c1_3]] ?_
           with_reducible refine (laws_toMeasure.calls k a1_0 a1_1 a1_2 _ _ l1_3 t545 t546 t547 t548 _ ?side1 ?side2 A41.out).mono ?_
           (case side1 => exact ca_ (Kd.C_below HR1_3.out HB.out))
           (case side2 => exact HC1_3.out)
           rintro e w116 ⟨v549, rfl, ho0, hb⟩
           refine ⟨_, rfl, ?_⟩
           have HO550 := Aside0.mk (Kd.R_lower (Kd.R_new' (Kd.R_new' (Kd.R_new' (Kd.R_new' (Kd.R_new' ho0 (Kd.R_lt (ra_ HO489.out))) (Kd.R_lt (ra_ HO501.out))) (Kd.R_lt (ra_ HO509.out))) (Kd.R_lt (ra_ HO522.out))) (Kd.R_lt (ra_ HO531.out))) (below_size (bw_ HB).out))
           replace HO489 := Aside0.mk (Kd.R_elder' (ra_ HO489.out) (Kd.R_base ho0) hb)
           replace HO495 := rb_ HO495 hb
           replace HO501 := Aside0.mk (Kd.R_elder' (ra_ HO501.out) (Kd.R_base ho0) hb)
           replace HO509 := Aside0.mk (Kd.R_elder' (ra_ HO509.out) (Kd.R_base ho0) hb)
           replace HO513 := rb_ HO513 hb
           replace HO522 := Aside0.mk (Kd.R_elder' (ra_ HO522.out) (Kd.R_base ho0) hb)
           replace HO531 := Aside0.mk (Kd.R_elder' (ra_ HO531.out) (Kd.R_base ho0) hb)
           replace HO535 := rb_ HO535 hb
           replace BK481 := bb_ BK481 hb
           replace BK482 := bb_ BK482 hb
           replace BK503 := bb_ BK503 hb
           replace BK510 := bb_ BK510 hb
           replace BK524 := bb_ BK524 hb
           replace HB := bt_ HB hb
           try clear hb
           (try clear ho0)
           refine hK.out _ _ ⟨cz_ BK481 0, cz_ BK481 1, cz_ BK481 2, cz_ BK481 3, cz_ BK482 0, cz_ BK482 1, cz_ BK482 2⟩ (fun hHeld => ?_)
           clear hK K
           refine nm_ (some 105) ?_
           exact norm_ (by first | (simp only [putAll, Act.put, lstS, lstZ, lstC]; done) | (simp only [putAll, Act.put, lstS, lstZ, lstC]; rfl)) (hJ2 (v549) _ ⟨hHeld, (by (with_reducible repeat (first | apply Kd.R_alloc | apply Kd.R_drewN | apply Kd.R_drew)); exact Kd.R_mono HO489.out (fun _ hk => ⟨hk.1.1, ⟨hk.1.2.1, ⟨hk.1.2.2.1, ⟨hk.1.2.2.2, hk.2⟩⟩⟩⟩)), (ra_ HO495.out), (by (with_reducible repeat (first | apply Kd.R_alloc | apply Kd.R_drewN | apply Kd.R_drew)); exact Kd.R_mono HO501.out (fun _ hk => ⟨hk.1.1, ⟨hk.1.2.1, ⟨hk.1.2.2.1, ⟨hk.1.2.2.2, hk.2⟩⟩⟩⟩)), (by (with_reducible repeat (first | apply Kd.R_alloc | apply Kd.R_drewN | apply Kd.R_drew)); exact Kd.R_mono HO509.out (fun _ hk => ⟨hk.1.1, ⟨hk.1.2.1, ⟨hk.1.2.2.1, ⟨hk.1.2.2.2, hk.2⟩⟩⟩⟩)), (ra_ HO513.out), (by (with_reducible repeat (first | apply Kd.R_alloc | apply Kd.R_drewN | apply Kd.R_drew)); exact Kd.R_mono HO522.out (fun _ hk => ⟨hk.1.1, ⟨hk.1.2.1, ⟨hk.1.2.2.1, ⟨hk.1.2.2.2, hk.2⟩⟩⟩⟩)), (by (with_reducible repeat (first | apply Kd.R_alloc | apply Kd.R_drewN | apply Kd.R_drew)); exact Kd.R_mono HO531.out (fun _ hk => ⟨hk.1.1, ⟨hk.1.2.1, ⟨hk.1.2.2.1, ⟨hk.1.2.2.2, hk.2⟩⟩⟩⟩)), (ra_ HO535.out), (by (with_reducible repeat (first | apply Kd.R_alloc | apply Kd.R_drewN | apply Kd.R_drew)); exact Kd.R_mono HO550.out (fun _ hk => ⟨hk.1.1.1.1.2, ⟨hk.1.1.1.2, ⟨hk.1.1.2, ⟨hk.1.2, hk.2⟩⟩⟩⟩)), (bl_ BK481).out, (bl_ BK482).out, (bl_ BK503).out, (bl_ BK510).out, (bl_ BK524).out, (bw_ HB).out⟩)
          skip
          refine bz_ 19 #[.int .i64 0, .int .i64 0, .int .i64 0, .slice none 0 0] 34 ?_
          intro gb564 hg w116 BK564 hb
          have GW564 := bs_ HB hg
          have NB481_564 := bm_ BK481 hg
          have NB564_481 := bn_ BK481 hg
          have NB482_564 := bm_ BK482 hg
          have NB564_482 := bn_ BK482 hg
          have NB503_564 := bm_ BK503 hg
          have NB564_503 := bn_ BK503 hg
          have NB510_564 := bm_ BK510 hg
          have NB564_510 := bn_ BK510 hg
          have NB524_564 := bm_ BK524 hg
          have NB564_524 := bn_ BK524 hg
          replace HO489 := rb_ HO489 hb
          replace HO495 := rb_ HO495 hb
          replace HO501 := rb_ HO501 hb
          replace HO509 := rb_ HO509 hb
          replace HO513 := rb_ HO513 hb
          replace HO522 := rb_ HO522 hb
          replace HO531 := rb_ HO531 hb
          replace HO535 := rb_ HO535 hb
          replace BK481 := bb_ BK481 hb
          replace BK482 := bb_ BK482 hb
          replace BK503 := bb_ BK503 hb
          replace BK510 := bb_ BK510 hb
          replace BK524 := bb_ BK524 hb
          replace HB := bt_ HB hb
          clear hb hg
          refine hK.out _ _ ⟨cz_ BK481 0, cz_ BK481 1, cz_ BK481 2, cz_ BK481 3, cz_ BK482 0, cz_ BK482 1, cz_ BK482 2⟩ (fun hHeld => ?_)
          clear hK K
          refine nm_ (some 19) ?_
          exact norm_ (by first | (simp only [putAll, Act.put, lstS, lstZ, lstC]; done) | (simp only [putAll, Act.put, lstS, lstZ, lstC]; rfl)) (hJ11 (gb564) _ ⟨hHeld, (ra_ HO489.out), (ra_ HO495.out), (ra_ HO501.out), (ra_ HO509.out), (ra_ HO513.out), (ra_ HO522.out), (ra_ HO531.out), (ra_ HO535.out), (bl_ BK481).out, (bl_ BK482).out, (bl_ BK503).out, (bl_ BK510).out, (bl_ BK524).out, (bl_ BK564).out, GW564.out, GW564.out, NB481_564.out, NB564_481.out, NB482_564.out, NB564_482.out, NB503_564.out, NB564_503.out, NB510_564.out, NB564_510.out, NB524_564.out, NB564_524.out, (bw_ HB).out⟩)
         skip
         rintro gb564 w117 ⟨hS_, h0_, h1_, h2_, h3_, h4_, h5_, h6_, h7_, h8_, h9_, h10_, h11_, h12_, h13_, h14_, h15_, h16_, h17_, h18_, h19_, h20_, h21_, h22_, h23_, h24_, h25_, h26_⟩
         clear HO489 HO495 HO501 HO509 HO513 HO522 HO531 HO535 BK481 BK482 BK503 BK510 BK524 HB
         have HO489 := Aside0.mk h0_
         have HO495 := Aside0.mk h1_
         have HO501 := Aside0.mk h2_
         have HO509 := Aside0.mk h3_
         have HO513 := Aside0.mk h4_
         have HO522 := Aside0.mk h5_
         have HO531 := Aside0.mk h6_
         have HO535 := Aside0.mk h7_
         have BK481 := Aside0.mk h8_
         have BK482 := Aside0.mk h9_
         have BK503 := Aside0.mk h10_
         have BK510 := Aside0.mk h11_
         have BK524 := Aside0.mk h12_
         have BK564 := Aside0.mk h13_
         have GW564 := Aside0.mk h14_
         have GW564 := Aside0.mk h15_
         have NB481_564 := Aside0.mk h16_
         have NB564_481 := Aside0.mk h17_
         have NB482_564 := Aside0.mk h18_
         have NB564_482 := Aside0.mk h19_
         have NB503_564 := Aside0.mk h20_
         have NB564_503 := Aside0.mk h21_
         have NB510_564 := Aside0.mk h22_
         have NB564_510 := Aside0.mk h23_
         have NB524_564 := Aside0.mk h24_
         have NB564_524 := Aside0.mk h25_
         have HB := Aside0.mk h26_
         clear h0_ h1_ h2_ h3_ h4_ h5_ h6_ h7_ h8_ h9_ h10_ h11_ h12_ h13_ h14_ h15_ h16_ h17_ h18_ h19_ h20_ h21_ h22_ h23_ h24_ h25_ h26_
         have hHeld : w117.cell? ⟨gb481, 0, none⟩ = some (.int .i64 a1_0) ∧ w117.cell? ⟨gb481, 1, none⟩ = some (.int .i64 a1_1) ∧ w117.cell? ⟨gb481, 2, none⟩ = some (.int .i64 a1_2) ∧ w117.cell? ⟨gb481, 3, none⟩ = some (.slice A1_3 l1_3.length c1_3) ∧ w117.cell? ⟨gb482, 0, none⟩ = some (.int .i64 a2_0) ∧ w117.cell? ⟨gb482, 1, none⟩ = some (.int .i64 a2_1) ∧ w117.cell? ⟨gb482, 2, none⟩ = some (.int .i64 a2_2) := hS_
         refine norm_ (a' := ?_) ?_ ?_
         rotate_left
         ·simp only [putAll, Act.put, lstS, lstZ, lstC]
          rfl
         refine on_ HT_ 2 (some 105) (bv_ 14 2095) (fun K hK => ?_)
         refine gs_ Try.func9 #[.agg #[.int .i64 a1_0, .int .i64 a1_1, .int .i64 a1_2, .slice A1_3 l1_3.length c1_3]] ?_
         with_reducible refine (laws_toMeasure.calls k a1_0 a1_1 a1_2 _ _ l1_3 t545 t546 t547 t548 _ ?side1 ?side2 A41.out).mono ?_
         (case side1 => exact ca_ (Kd.C_below HR1_3.out HB.out))
         (case side2 => exact HC1_3.out)
         rintro e w118 ⟨v549, rfl, ho0, hb⟩
         refine ⟨_, rfl, ?_⟩
         have HO550 := Aside0.mk (Kd.R_lower (Kd.R_new' (Kd.R_new' (Kd.R_new' (Kd.R_new' (Kd.R_new' ho0 (Kd.R_lt (ra_ HO489.out))) (Kd.R_lt (ra_ HO501.out))) (Kd.R_lt (ra_ HO509.out))) (Kd.R_lt (ra_ HO522.out))) (Kd.R_lt (ra_ HO531.out))) (below_size (bw_ HB).out))
         replace HO489 := Aside0.mk (Kd.R_elder' (ra_ HO489.out) (Kd.R_base ho0) hb)
         replace HO495 := rb_ HO495 hb
         replace HO501 := Aside0.mk (Kd.R_elder' (ra_ HO501.out) (Kd.R_base ho0) hb)
         replace HO509 := Aside0.mk (Kd.R_elder' (ra_ HO509.out) (Kd.R_base ho0) hb)
         replace HO513 := rb_ HO513 hb
         replace HO522 := Aside0.mk (Kd.R_elder' (ra_ HO522.out) (Kd.R_base ho0) hb)
         replace HO531 := Aside0.mk (Kd.R_elder' (ra_ HO531.out) (Kd.R_base ho0) hb)
         replace HO535 := rb_ HO535 hb
         replace BK481 := bb_ BK481 hb
         replace BK482 := bb_ BK482 hb
         replace BK503 := bb_ BK503 hb
         replace BK510 := bb_ BK510 hb
         replace BK524 := bb_ BK524 hb
         replace BK564 := bb_ BK564 hb
         replace HB := bt_ HB hb
         try clear hb
         (try clear ho0)
         refine hK.out _ _ ⟨cz_ BK481 0, cz_ BK481 1, cz_ BK481 2, cz_ BK481 3, cz_ BK482 0, cz_ BK482 1, cz_ BK482 2⟩ (fun hHeld => ?_)
         clear hK K
         refine nm_ (some 105) ?_
         exact norm_ (by first | (simp only [putAll, Act.put, lstS, lstZ, lstC]; done) | (simp only [putAll, Act.put, lstS, lstZ, lstC]; rfl)) (hJ2_11 (v549, gb564) _ ⟨hHeld, (by (with_reducible repeat (first | apply Kd.R_alloc | apply Kd.R_drewN | apply Kd.R_drew)); exact Kd.R_mono HO489.out (fun _ hk => ⟨hk.1.1, ⟨hk.1.2.1, ⟨hk.1.2.2.1, ⟨hk.1.2.2.2, hk.2⟩⟩⟩⟩)), (ra_ HO495.out), (by (with_reducible repeat (first | apply Kd.R_alloc | apply Kd.R_drewN | apply Kd.R_drew)); exact Kd.R_mono HO501.out (fun _ hk => ⟨hk.1.1, ⟨hk.1.2.1, ⟨hk.1.2.2.1, ⟨hk.1.2.2.2, hk.2⟩⟩⟩⟩)), (by (with_reducible repeat (first | apply Kd.R_alloc | apply Kd.R_drewN | apply Kd.R_drew)); exact Kd.R_mono HO509.out (fun _ hk => ⟨hk.1.1, ⟨hk.1.2.1, ⟨hk.1.2.2.1, ⟨hk.1.2.2.2, hk.2⟩⟩⟩⟩)), (ra_ HO513.out), (by (with_reducible repeat (first | apply Kd.R_alloc | apply Kd.R_drewN | apply Kd.R_drew)); exact Kd.R_mono HO522.out (fun _ hk => ⟨hk.1.1, ⟨hk.1.2.1, ⟨hk.1.2.2.1, ⟨hk.1.2.2.2, hk.2⟩⟩⟩⟩)), (by (with_reducible repeat (first | apply Kd.R_alloc | apply Kd.R_drewN | apply Kd.R_drew)); exact Kd.R_mono HO531.out (fun _ hk => ⟨hk.1.1, ⟨hk.1.2.1, ⟨hk.1.2.2.1, ⟨hk.1.2.2.2, hk.2⟩⟩⟩⟩)), (ra_ HO535.out), (by (with_reducible repeat (first | apply Kd.R_alloc | apply Kd.R_drewN | apply Kd.R_drew)); exact Kd.R_mono HO550.out (fun _ hk => ⟨hk.1.1.1.1.2, ⟨hk.1.1.1.2, ⟨hk.1.1.2, ⟨hk.1.2, hk.2⟩⟩⟩⟩)), (bl_ BK481).out, (bl_ BK482).out, (bl_ BK503).out, (bl_ BK510).out, (bl_ BK524).out, (bl_ BK564).out, GW564.out, GW564.out, NB481_564.out, NB564_481.out, NB482_564.out, NB564_482.out, NB503_564.out, NB564_503.out, NB510_564.out, NB564_510.out, NB524_564.out, NB564_524.out, (bw_ HB).out⟩)
        skip
        rintro v549 w117 ⟨hS_, h0_, h1_, h2_, h3_, h4_, h5_, h6_, h7_, h8_, h9_, h10_, h11_, h12_, h13_, h14_⟩
        clear HO489 HO495 HO501 HO509 HO513 HO522 HO531 HO535 BK481 BK482 BK503 BK510 BK524 HB
        have HO489 := Aside0.mk h0_
        have HO495 := Aside0.mk h1_
        have HO501 := Aside0.mk h2_
        have HO509 := Aside0.mk h3_
        have HO513 := Aside0.mk h4_
        have HO522 := Aside0.mk h5_
        have HO531 := Aside0.mk h6_
        have HO535 := Aside0.mk h7_
        have HO550 := Aside0.mk h8_
        have BK481 := Aside0.mk h9_
        have BK482 := Aside0.mk h10_
        have BK503 := Aside0.mk h11_
        have BK510 := Aside0.mk h12_
        have BK524 := Aside0.mk h13_
        have HB := Aside0.mk h14_
        clear h0_ h1_ h2_ h3_ h4_ h5_ h6_ h7_ h8_ h9_ h10_ h11_ h12_ h13_ h14_
        have hHeld : w117.cell? ⟨gb481, 0, none⟩ = some (.int .i64 a1_0) ∧ w117.cell? ⟨gb481, 1, none⟩ = some (.int .i64 a1_1) ∧ w117.cell? ⟨gb481, 2, none⟩ = some (.int .i64 a1_2) ∧ w117.cell? ⟨gb481, 3, none⟩ = some (.slice A1_3 l1_3.length c1_3) ∧ w117.cell? ⟨gb482, 0, none⟩ = some (.int .i64 a2_0) ∧ w117.cell? ⟨gb482, 1, none⟩ = some (.int .i64 a2_1) ∧ w117.cell? ⟨gb482, 2, none⟩ = some (.int .i64 a2_2) := hS_
        refine norm_ (a' := ?_) ?_ ?_
        rotate_left
        ·simp only [putAll, Act.put, lstS, lstZ, lstC]
         rfl
        refine tw_ HT_ 4 11 (some 107) (some 19) (bv_ 14 63) (bv_ 14 2095) (fun K hK => ?_) (fun K hK => ?_)
        ·skip
         refine gs_ Try.func17 #[.agg #[.int .i64 a2_0, .int .i64 a2_1, .int .i64 a2_2]] ?_
         with_reducible refine (laws_toBall.calls a2_0 a2_1 a2_2 t551 t552 t553 _ A42.out).mono ?_
         rintro e w118 ⟨rfl, hb⟩
         refine ⟨_, rfl, ?_⟩
         replace HO489 := rb_ HO489 hb
         replace HO495 := rb_ HO495 hb
         replace HO501 := rb_ HO501 hb
         replace HO509 := rb_ HO509 hb
         replace HO513 := rb_ HO513 hb
         replace HO522 := rb_ HO522 hb
         replace HO531 := rb_ HO531 hb
         replace HO535 := rb_ HO535 hb
         replace HO550 := rb_ HO550 hb
         replace BK481 := bb_ BK481 hb
         replace BK482 := bb_ BK482 hb
         replace BK503 := bb_ BK503 hb
         replace BK510 := bb_ BK510 hb
         replace BK524 := bb_ BK524 hb
         replace HB := bt_ HB hb
         try clear hb
         refine hK.out _ _ ⟨cz_ BK481 0, cz_ BK481 1, cz_ BK481 2, cz_ BK481 3, cz_ BK482 0, cz_ BK482 1, cz_ BK482 2⟩ (fun hHeld => ?_)
         clear hK K
         refine nm_ (some 107) ?_
         exact norm_ (by first | (simp only [putAll, Act.put, lstS, lstZ, lstC]; done) | (simp only [putAll, Act.put, lstS, lstZ, lstC]; rfl)) (hJ2_4 (v549) _ ⟨hHeld, (ra_ HO489.out), (ra_ HO495.out), (ra_ HO501.out), (ra_ HO509.out), (ra_ HO513.out), (ra_ HO522.out), (ra_ HO531.out), (ra_ HO535.out), (ra_ HO550.out), (bl_ BK481).out, (bl_ BK482).out, (bl_ BK503).out, (bl_ BK510).out, (bl_ BK524).out, (bw_ HB).out⟩)
        skip
        refine bz_ 19 #[.int .i64 0, .int .i64 0, .int .i64 0, .slice none 0 0] 34 ?_
        intro gb564 hg w118 BK564 hb
        have GW564 := bs_ HB hg
        have NB481_564 := bm_ BK481 hg
        have NB564_481 := bn_ BK481 hg
        have NB482_564 := bm_ BK482 hg
        have NB564_482 := bn_ BK482 hg
        have NB503_564 := bm_ BK503 hg
        have NB564_503 := bn_ BK503 hg
        have NB510_564 := bm_ BK510 hg
        have NB564_510 := bn_ BK510 hg
        have NB524_564 := bm_ BK524 hg
        have NB564_524 := bn_ BK524 hg
        replace HO489 := rb_ HO489 hb
        replace HO495 := rb_ HO495 hb
        replace HO501 := rb_ HO501 hb
        replace HO509 := rb_ HO509 hb
        replace HO513 := rb_ HO513 hb
        replace HO522 := rb_ HO522 hb
        replace HO531 := rb_ HO531 hb
        replace HO535 := rb_ HO535 hb
        replace HO550 := rb_ HO550 hb
        replace BK481 := bb_ BK481 hb
        replace BK482 := bb_ BK482 hb
        replace BK503 := bb_ BK503 hb
        replace BK510 := bb_ BK510 hb
        replace BK524 := bb_ BK524 hb
        replace HB := bt_ HB hb
        clear hb hg
        refine hK.out _ _ ⟨cz_ BK481 0, cz_ BK481 1, cz_ BK481 2, cz_ BK481 3, cz_ BK482 0, cz_ BK482 1, cz_ BK482 2⟩ (fun hHeld => ?_)
        clear hK K
        refine nm_ (some 19) ?_
        exact norm_ (by first | (simp only [putAll, Act.put, lstS, lstZ, lstC]; done) | (simp only [putAll, Act.put, lstS, lstZ, lstC]; rfl)) (hJ2_11 (v549, gb564) _ ⟨hHeld, (ra_ HO489.out), (ra_ HO495.out), (ra_ HO501.out), (ra_ HO509.out), (ra_ HO513.out), (ra_ HO522.out), (ra_ HO531.out), (ra_ HO535.out), (ra_ HO550.out), (bl_ BK481).out, (bl_ BK482).out, (bl_ BK503).out, (bl_ BK510).out, (bl_ BK524).out, (bl_ BK564).out, GW564.out, GW564.out, NB481_564.out, NB564_481.out, NB482_564.out, NB564_482.out, NB503_564.out, NB564_503.out, NB510_564.out, NB564_510.out, NB524_564.out, NB564_524.out, (bw_ HB).out⟩)
       skip
       rintro ⟨v549, gb564⟩ w118 ⟨hS_, h0_, h1_, h2_, h3_, h4_, h5_, h6_, h7_, h8_, h9_, h10_, h11_, h12_, h13_, h14_, h15_, h16_, h17_, h18_, h19_, h20_, h21_, h22_, h23_, h24_, h25_, h26_, h27_⟩
       clear HO489 HO495 HO501 HO509 HO513 HO522 HO531 HO535 BK481 BK482 BK503 BK510 BK524 HB
       have HO489 := Aside0.mk h0_
       have HO495 := Aside0.mk h1_
       have HO501 := Aside0.mk h2_
       have HO509 := Aside0.mk h3_
       have HO513 := Aside0.mk h4_
       have HO522 := Aside0.mk h5_
       have HO531 := Aside0.mk h6_
       have HO535 := Aside0.mk h7_
       have HO550 := Aside0.mk h8_
       have BK481 := Aside0.mk h9_
       have BK482 := Aside0.mk h10_
       have BK503 := Aside0.mk h11_
       have BK510 := Aside0.mk h12_
       have BK524 := Aside0.mk h13_
       have BK564 := Aside0.mk h14_
       have GW564 := Aside0.mk h15_
       have GW564 := Aside0.mk h16_
       have NB481_564 := Aside0.mk h17_
       have NB564_481 := Aside0.mk h18_
       have NB482_564 := Aside0.mk h19_
       have NB564_482 := Aside0.mk h20_
       have NB503_564 := Aside0.mk h21_
       have NB564_503 := Aside0.mk h22_
       have NB510_564 := Aside0.mk h23_
       have NB564_510 := Aside0.mk h24_
       have NB524_564 := Aside0.mk h25_
       have NB564_524 := Aside0.mk h26_
       have HB := Aside0.mk h27_
       clear h0_ h1_ h2_ h3_ h4_ h5_ h6_ h7_ h8_ h9_ h10_ h11_ h12_ h13_ h14_ h15_ h16_ h17_ h18_ h19_ h20_ h21_ h22_ h23_ h24_ h25_ h26_ h27_
       have hHeld : w118.cell? ⟨gb481, 0, none⟩ = some (.int .i64 a1_0) ∧ w118.cell? ⟨gb481, 1, none⟩ = some (.int .i64 a1_1) ∧ w118.cell? ⟨gb481, 2, none⟩ = some (.int .i64 a1_2) ∧ w118.cell? ⟨gb481, 3, none⟩ = some (.slice A1_3 l1_3.length c1_3) ∧ w118.cell? ⟨gb482, 0, none⟩ = some (.int .i64 a2_0) ∧ w118.cell? ⟨gb482, 1, none⟩ = some (.int .i64 a2_1) ∧ w118.cell? ⟨gb482, 2, none⟩ = some (.int .i64 a2_2) := hS_
       refine norm_ (a' := ?_) ?_ ?_
       rotate_left
       ·simp only [putAll, Act.put, lstS, lstZ, lstC]
        rfl
       refine on_ HT_ 4 (some 107) (bv_ 14 2111) (fun K hK => ?_)
       refine gs_ Try.func17 #[.agg #[.int .i64 a2_0, .int .i64 a2_1, .int .i64 a2_2]] ?_
       with_reducible refine (laws_toBall.calls a2_0 a2_1 a2_2 t551 t552 t553 _ A42.out).mono ?_
       rintro e w119 ⟨rfl, hb⟩
       refine ⟨_, rfl, ?_⟩
       replace HO489 := rb_ HO489 hb
       replace HO495 := rb_ HO495 hb
       replace HO501 := rb_ HO501 hb
       replace HO509 := rb_ HO509 hb
       replace HO513 := rb_ HO513 hb
       replace HO522 := rb_ HO522 hb
       replace HO531 := rb_ HO531 hb
       replace HO535 := rb_ HO535 hb
       replace HO550 := rb_ HO550 hb
       replace BK481 := bb_ BK481 hb
       replace BK482 := bb_ BK482 hb
       replace BK503 := bb_ BK503 hb
       replace BK510 := bb_ BK510 hb
       replace BK524 := bb_ BK524 hb
       replace BK564 := bb_ BK564 hb
       replace HB := bt_ HB hb
       try clear hb
       refine hK.out _ _ ⟨cz_ BK481 0, cz_ BK481 1, cz_ BK481 2, cz_ BK481 3, cz_ BK482 0, cz_ BK482 1, cz_ BK482 2⟩ (fun hHeld => ?_)
       clear hK K
       refine nm_ (some 107) ?_
       exact norm_ (by first | (simp only [putAll, Act.put, lstS, lstZ, lstC]; done) | (simp only [putAll, Act.put, lstS, lstZ, lstC]; rfl)) (hJ2_4_11 (v549, gb564) _ ⟨hHeld, (ra_ HO489.out), (ra_ HO495.out), (ra_ HO501.out), (ra_ HO509.out), (ra_ HO513.out), (ra_ HO522.out), (ra_ HO531.out), (ra_ HO535.out), (ra_ HO550.out), (bl_ BK481).out, (bl_ BK482).out, (bl_ BK503).out, (bl_ BK510).out, (bl_ BK524).out, (bl_ BK564).out, GW564.out, GW564.out, NB481_564.out, NB564_481.out, NB482_564.out, NB564_482.out, NB503_564.out, NB564_503.out, NB510_564.out, NB564_510.out, NB524_564.out, NB564_524.out, (bw_ HB).out⟩)
      skip
      rintro v549 w118 ⟨hS_, h0_, h1_, h2_, h3_, h4_, h5_, h6_, h7_, h8_, h9_, h10_, h11_, h12_, h13_, h14_⟩
      clear HO489 HO495 HO501 HO509 HO513 HO522 HO531 HO535 BK481 BK482 BK503 BK510 BK524 HB
      have HO489 := Aside0.mk h0_
      have HO495 := Aside0.mk h1_
      have HO501 := Aside0.mk h2_
      have HO509 := Aside0.mk h3_
      have HO513 := Aside0.mk h4_
      have HO522 := Aside0.mk h5_
      have HO531 := Aside0.mk h6_
      have HO535 := Aside0.mk h7_
      have HO550 := Aside0.mk h8_
      have BK481 := Aside0.mk h9_
      have BK482 := Aside0.mk h10_
      have BK503 := Aside0.mk h11_
      have BK510 := Aside0.mk h12_
      have BK524 := Aside0.mk h13_
      have HB := Aside0.mk h14_
      clear h0_ h1_ h2_ h3_ h4_ h5_ h6_ h7_ h8_ h9_ h10_ h11_ h12_ h13_ h14_
      have hHeld : w118.cell? ⟨gb481, 0, none⟩ = some (.int .i64 a1_0) ∧ w118.cell? ⟨gb481, 1, none⟩ = some (.int .i64 a1_1) ∧ w118.cell? ⟨gb481, 2, none⟩ = some (.int .i64 a1_2) ∧ w118.cell? ⟨gb481, 3, none⟩ = some (.slice A1_3 l1_3.length c1_3) ∧ w118.cell? ⟨gb482, 0, none⟩ = some (.int .i64 a2_0) ∧ w118.cell? ⟨gb482, 1, none⟩ = some (.int .i64 a2_1) ∧ w118.cell? ⟨gb482, 2, none⟩ = some (.int .i64 a2_2) := hS_
      refine norm_ (a' := ?_) ?_ ?_
      rotate_left
      ·simp only [putAll, Act.put, lstS, lstZ, lstC]
       rfl
      refine tw_ HT_ 6 11 (some 109) (some 19) (bv_ 14 127) (bv_ 14 2111) (fun K hK => ?_) (fun K hK => ?_)
      ·skip
       refine gs_ Try.func21 #[.slice A3 l3.length c3] ?_
       with_reducible refine (laws_toInt64S.calls k _ _ l3 t554 _ ?side1 ?side2 A43.out).mono ?_
       (case side1 => exact ca_ (Kd.C_below HR3.out HB.out))
       (case side2 => exact HC3.out)
       rintro e w119 ⟨v555, rfl, ho0, hb⟩
       refine ⟨_, rfl, ?_⟩
       have HO556 := Aside0.mk (Kd.R_lower (Kd.R_new' (Kd.R_new' (Kd.R_new' ho0 (Kd.R_lt (ra_ HO495.out))) (Kd.R_lt (ra_ HO513.out))) (Kd.R_lt (ra_ HO535.out))) (below_size (bw_ HB).out))
       replace HO489 := rb_ HO489 hb
       replace HO495 := Aside0.mk (Kd.R_elder' (ra_ HO495.out) (Kd.R_base ho0) hb)
       replace HO501 := rb_ HO501 hb
       replace HO509 := rb_ HO509 hb
       replace HO513 := Aside0.mk (Kd.R_elder' (ra_ HO513.out) (Kd.R_base ho0) hb)
       replace HO522 := rb_ HO522 hb
       replace HO531 := rb_ HO531 hb
       replace HO535 := Aside0.mk (Kd.R_elder' (ra_ HO535.out) (Kd.R_base ho0) hb)
       replace HO550 := rb_ HO550 hb
       replace BK481 := bb_ BK481 hb
       replace BK482 := bb_ BK482 hb
       replace BK503 := bb_ BK503 hb
       replace BK510 := bb_ BK510 hb
       replace BK524 := bb_ BK524 hb
       replace HB := bt_ HB hb
       try clear hb
       (try clear ho0)
       refine hK.out _ _ ⟨cz_ BK481 0, cz_ BK481 1, cz_ BK481 2, cz_ BK481 3, cz_ BK482 0, cz_ BK482 1, cz_ BK482 2⟩ (fun hHeld => ?_)
       clear hK K
       refine nm_ (some 109) ?_
       exact norm_ (by first | (simp only [putAll, Act.put, lstS, lstZ, lstC]; done) | (simp only [putAll, Act.put, lstS, lstZ, lstC]; rfl)) (hJ2_4_6 (v549, v555) _ ⟨hHeld, (ra_ HO489.out), (by (with_reducible repeat (first | apply Kd.R_alloc | apply Kd.R_drewN | apply Kd.R_drew)); exact Kd.R_mono HO495.out (fun _ hk => ⟨hk.1.1, ⟨hk.1.2, hk.2⟩⟩)), (ra_ HO501.out), (ra_ HO509.out), (by (with_reducible repeat (first | apply Kd.R_alloc | apply Kd.R_drewN | apply Kd.R_drew)); exact Kd.R_mono HO513.out (fun _ hk => ⟨hk.1.1, ⟨hk.1.2, hk.2⟩⟩)), (ra_ HO522.out), (ra_ HO531.out), (by (with_reducible repeat (first | apply Kd.R_alloc | apply Kd.R_drewN | apply Kd.R_drew)); exact Kd.R_mono HO535.out (fun _ hk => ⟨hk.1.1, ⟨hk.1.2, hk.2⟩⟩)), (ra_ HO550.out), (by (with_reducible repeat (first | apply Kd.R_alloc | apply Kd.R_drewN | apply Kd.R_drew)); exact Kd.R_mono HO556.out (fun _ hk => ⟨hk.1.1.2, ⟨hk.1.2, hk.2⟩⟩)), (bl_ BK481).out, (bl_ BK482).out, (bl_ BK503).out, (bl_ BK510).out, (bl_ BK524).out, (bw_ HB).out⟩)
      skip
      refine bz_ 19 #[.int .i64 0, .int .i64 0, .int .i64 0, .slice none 0 0] 34 ?_
      intro gb564 hg w119 BK564 hb
      have GW564 := bs_ HB hg
      have NB481_564 := bm_ BK481 hg
      have NB564_481 := bn_ BK481 hg
      have NB482_564 := bm_ BK482 hg
      have NB564_482 := bn_ BK482 hg
      have NB503_564 := bm_ BK503 hg
      have NB564_503 := bn_ BK503 hg
      have NB510_564 := bm_ BK510 hg
      have NB564_510 := bn_ BK510 hg
      have NB524_564 := bm_ BK524 hg
      have NB564_524 := bn_ BK524 hg
      replace HO489 := rb_ HO489 hb
      replace HO495 := rb_ HO495 hb
      replace HO501 := rb_ HO501 hb
      replace HO509 := rb_ HO509 hb
      replace HO513 := rb_ HO513 hb
      replace HO522 := rb_ HO522 hb
      replace HO531 := rb_ HO531 hb
      replace HO535 := rb_ HO535 hb
      replace HO550 := rb_ HO550 hb
      replace BK481 := bb_ BK481 hb
      replace BK482 := bb_ BK482 hb
      replace BK503 := bb_ BK503 hb
      replace BK510 := bb_ BK510 hb
      replace BK524 := bb_ BK524 hb
      replace HB := bt_ HB hb
      clear hb hg
      refine hK.out _ _ ⟨cz_ BK481 0, cz_ BK481 1, cz_ BK481 2, cz_ BK481 3, cz_ BK482 0, cz_ BK482 1, cz_ BK482 2⟩ (fun hHeld => ?_)
      clear hK K
      refine nm_ (some 19) ?_
      exact norm_ (by first | (simp only [putAll, Act.put, lstS, lstZ, lstC]; done) | (simp only [putAll, Act.put, lstS, lstZ, lstC]; rfl)) (hJ2_4_11 (v549, gb564) _ ⟨hHeld, (ra_ HO489.out), (ra_ HO495.out), (ra_ HO501.out), (ra_ HO509.out), (ra_ HO513.out), (ra_ HO522.out), (ra_ HO531.out), (ra_ HO535.out), (ra_ HO550.out), (bl_ BK481).out, (bl_ BK482).out, (bl_ BK503).out, (bl_ BK510).out, (bl_ BK524).out, (bl_ BK564).out, GW564.out, GW564.out, NB481_564.out, NB564_481.out, NB482_564.out, NB564_482.out, NB503_564.out, NB564_503.out, NB510_564.out, NB564_510.out, NB524_564.out, NB564_524.out, (bw_ HB).out⟩)
     skip
     rintro ⟨v549, gb564⟩ w119 ⟨hS_, h0_, h1_, h2_, h3_, h4_, h5_, h6_, h7_, h8_, h9_, h10_, h11_, h12_, h13_, h14_, h15_, h16_, h17_, h18_, h19_, h20_, h21_, h22_, h23_, h24_, h25_, h26_, h27_⟩
     clear HO489 HO495 HO501 HO509 HO513 HO522 HO531 HO535 BK481 BK482 BK503 BK510 BK524 HB
     have HO489 := Aside0.mk h0_
     have HO495 := Aside0.mk h1_
     have HO501 := Aside0.mk h2_
     have HO509 := Aside0.mk h3_
     have HO513 := Aside0.mk h4_
     have HO522 := Aside0.mk h5_
     have HO531 := Aside0.mk h6_
     have HO535 := Aside0.mk h7_
     have HO550 := Aside0.mk h8_
     have BK481 := Aside0.mk h9_
     have BK482 := Aside0.mk h10_
     have BK503 := Aside0.mk h11_
     have BK510 := Aside0.mk h12_
     have BK524 := Aside0.mk h13_
     have BK564 := Aside0.mk h14_
     have GW564 := Aside0.mk h15_
     have GW564 := Aside0.mk h16_
     have NB481_564 := Aside0.mk h17_
     have NB564_481 := Aside0.mk h18_
     have NB482_564 := Aside0.mk h19_
     have NB564_482 := Aside0.mk h20_
     have NB503_564 := Aside0.mk h21_
     have NB564_503 := Aside0.mk h22_
     have NB510_564 := Aside0.mk h23_
     have NB564_510 := Aside0.mk h24_
     have NB524_564 := Aside0.mk h25_
     have NB564_524 := Aside0.mk h26_
     have HB := Aside0.mk h27_
     clear h0_ h1_ h2_ h3_ h4_ h5_ h6_ h7_ h8_ h9_ h10_ h11_ h12_ h13_ h14_ h15_ h16_ h17_ h18_ h19_ h20_ h21_ h22_ h23_ h24_ h25_ h26_ h27_
     have hHeld : w119.cell? ⟨gb481, 0, none⟩ = some (.int .i64 a1_0) ∧ w119.cell? ⟨gb481, 1, none⟩ = some (.int .i64 a1_1) ∧ w119.cell? ⟨gb481, 2, none⟩ = some (.int .i64 a1_2) ∧ w119.cell? ⟨gb481, 3, none⟩ = some (.slice A1_3 l1_3.length c1_3) ∧ w119.cell? ⟨gb482, 0, none⟩ = some (.int .i64 a2_0) ∧ w119.cell? ⟨gb482, 1, none⟩ = some (.int .i64 a2_1) ∧ w119.cell? ⟨gb482, 2, none⟩ = some (.int .i64 a2_2) := hS_
     refine norm_ (a' := ?_) ?_ ?_
     rotate_left
     ·simp only [putAll, Act.put, lstS, lstZ, lstC]
      rfl
     refine on_ HT_ 6 (some 109) (bv_ 14 2175) (fun K hK => ?_)
     refine gs_ Try.func21 #[.slice A3 l3.length c3] ?_
     with_reducible refine (laws_toInt64S.calls k _ _ l3 t554 _ ?side1 ?side2 A43.out).mono ?_
     (case side1 => exact ca_ (Kd.C_below HR3.out HB.out))
     (case side2 => exact HC3.out)
     rintro e w120 ⟨v555, rfl, ho0, hb⟩
     refine ⟨_, rfl, ?_⟩
     have HO556 := Aside0.mk (Kd.R_lower (Kd.R_new' (Kd.R_new' (Kd.R_new' ho0 (Kd.R_lt (ra_ HO495.out))) (Kd.R_lt (ra_ HO513.out))) (Kd.R_lt (ra_ HO535.out))) (below_size (bw_ HB).out))
     replace HO489 := rb_ HO489 hb
     replace HO495 := Aside0.mk (Kd.R_elder' (ra_ HO495.out) (Kd.R_base ho0) hb)
     replace HO501 := rb_ HO501 hb
     replace HO509 := rb_ HO509 hb
     replace HO513 := Aside0.mk (Kd.R_elder' (ra_ HO513.out) (Kd.R_base ho0) hb)
     replace HO522 := rb_ HO522 hb
     replace HO531 := rb_ HO531 hb
     replace HO535 := Aside0.mk (Kd.R_elder' (ra_ HO535.out) (Kd.R_base ho0) hb)
     replace HO550 := rb_ HO550 hb
     replace BK481 := bb_ BK481 hb
     replace BK482 := bb_ BK482 hb
     replace BK503 := bb_ BK503 hb
     replace BK510 := bb_ BK510 hb
     replace BK524 := bb_ BK524 hb
     replace BK564 := bb_ BK564 hb
     replace HB := bt_ HB hb
     try clear hb
     (try clear ho0)
     refine hK.out _ _ ⟨cz_ BK481 0, cz_ BK481 1, cz_ BK481 2, cz_ BK481 3, cz_ BK482 0, cz_ BK482 1, cz_ BK482 2⟩ (fun hHeld => ?_)
     clear hK K
     refine nm_ (some 109) ?_
     exact norm_ (by first | (simp only [putAll, Act.put, lstS, lstZ, lstC]; done) | (simp only [putAll, Act.put, lstS, lstZ, lstC]; rfl)) (hJ2_4_6_11 (v549, v555, gb564) _ ⟨hHeld, (ra_ HO489.out), (by (with_reducible repeat (first | apply Kd.R_alloc | apply Kd.R_drewN | apply Kd.R_drew)); exact Kd.R_mono HO495.out (fun _ hk => ⟨hk.1.1, ⟨hk.1.2, hk.2⟩⟩)), (ra_ HO501.out), (ra_ HO509.out), (by (with_reducible repeat (first | apply Kd.R_alloc | apply Kd.R_drewN | apply Kd.R_drew)); exact Kd.R_mono HO513.out (fun _ hk => ⟨hk.1.1, ⟨hk.1.2, hk.2⟩⟩)), (ra_ HO522.out), (ra_ HO531.out), (by (with_reducible repeat (first | apply Kd.R_alloc | apply Kd.R_drewN | apply Kd.R_drew)); exact Kd.R_mono HO535.out (fun _ hk => ⟨hk.1.1, ⟨hk.1.2, hk.2⟩⟩)), (ra_ HO550.out), (by (with_reducible repeat (first | apply Kd.R_alloc | apply Kd.R_drewN | apply Kd.R_drew)); exact Kd.R_mono HO556.out (fun _ hk => ⟨hk.1.1.2, ⟨hk.1.2, hk.2⟩⟩)), (bl_ BK481).out, (bl_ BK482).out, (bl_ BK503).out, (bl_ BK510).out, (bl_ BK524).out, (bl_ BK564).out, GW564.out, GW564.out, NB481_564.out, NB564_481.out, NB482_564.out, NB564_482.out, NB503_564.out, NB564_503.out, NB510_564.out, NB564_510.out, NB524_564.out, NB564_524.out, (bw_ HB).out⟩)
    skip
    rintro ⟨v549, v555⟩ w119 ⟨hS_, h0_, h1_, h2_, h3_, h4_, h5_, h6_, h7_, h8_, h9_, h10_, h11_, h12_, h13_, h14_, h15_⟩
    clear HO489 HO495 HO501 HO509 HO513 HO522 HO531 HO535 BK481 BK482 BK503 BK510 BK524 HB
    have HO489 := Aside0.mk h0_
    have HO495 := Aside0.mk h1_
    have HO501 := Aside0.mk h2_
    have HO509 := Aside0.mk h3_
    have HO513 := Aside0.mk h4_
    have HO522 := Aside0.mk h5_
    have HO531 := Aside0.mk h6_
    have HO535 := Aside0.mk h7_
    have HO550 := Aside0.mk h8_
    have HO556 := Aside0.mk h9_
    have BK481 := Aside0.mk h10_
    have BK482 := Aside0.mk h11_
    have BK503 := Aside0.mk h12_
    have BK510 := Aside0.mk h13_
    have BK524 := Aside0.mk h14_
    have HB := Aside0.mk h15_
    clear h0_ h1_ h2_ h3_ h4_ h5_ h6_ h7_ h8_ h9_ h10_ h11_ h12_ h13_ h14_ h15_
    have hHeld : w119.cell? ⟨gb481, 0, none⟩ = some (.int .i64 a1_0) ∧ w119.cell? ⟨gb481, 1, none⟩ = some (.int .i64 a1_1) ∧ w119.cell? ⟨gb481, 2, none⟩ = some (.int .i64 a1_2) ∧ w119.cell? ⟨gb481, 3, none⟩ = some (.slice A1_3 l1_3.length c1_3) ∧ w119.cell? ⟨gb482, 0, none⟩ = some (.int .i64 a2_0) ∧ w119.cell? ⟨gb482, 1, none⟩ = some (.int .i64 a2_1) ∧ w119.cell? ⟨gb482, 2, none⟩ = some (.int .i64 a2_2) := hS_
    obtain ⟨Ao120, co120, eo120⟩ := Kd.R_slice HO550.out
    (first | subst eo120 | (injection eo120 with f1_ f2_ f3_; have f4_ := f1_.symm; have f5_ := f3_.symm; clear f1_ f2_ f3_; subst f4_; subst f5_))
    obtain ⟨Ao121, co121, eo121⟩ := Kd.R_slice HO556.out
    (first | subst eo121 | (injection eo121 with f1_ f2_ f3_; have f4_ := f1_.symm; have f5_ := f3_.symm; clear f1_ f2_ f3_; subst f4_; subst f5_))
    refine norm_ (a' := ?_) ?_ ?_
    rotate_left
    ·simp only [putAll, Act.put, lstS, lstZ, lstC]
     rfl
    refine tw_ HT_ 7 11 (some 110) (some 19) (bv_ 14 255) (bv_ 14 2175) (fun K hK => ?_) (fun K hK => ?_)
    ·skip
     refine gs_ Try.func22 #[.int .i64 a0, .agg #[.int .i64 t545, .int .i64 t546, .int .i64 t547, .slice Ao120 t548.length co120], .agg #[.int .i64 t551, .int .i64 t552, .int .i64 t553], .slice Ao121 t554.length co121] ?_
     with_reducible refine (impl_RefineAt.calls k a0 t545 t546 t547 _ _ t548 t551 t552 t553 _ _ t554 t557 t558 t559 t560 t563 _ ?side1 ?side2 ?side3 ?side4 A44.out).mono ?_
     (case side1 => exact ca_ (Kd.R_reads' HO550.out).2.2)
     (case side2 => exact (Kd.R_reads' HO550.out).2.1)
     (case side3 => exact ca_ (Kd.R_reads' HO556.out).2.2)
     (case side4 => exact (Kd.R_reads' HO556.out).2.1)
     rintro e w122 ⟨v561, rfl, ho0, hb⟩
     refine ⟨_, rfl, ?_⟩
     have HO562 := Aside0.mk (Kd.R_lower (Kd.R_new' (Kd.R_new' (Kd.R_new' (Kd.R_new' (Kd.R_new' (Kd.R_new' ho0 (Kd.R_lt (ra_ HO489.out))) (Kd.R_lt (ra_ HO501.out))) (Kd.R_lt (ra_ HO509.out))) (Kd.R_lt (ra_ HO522.out))) (Kd.R_lt (ra_ HO531.out))) (Kd.R_lt (ra_ HO550.out))) (below_size (bw_ HB).out))
     replace HO489 := Aside0.mk (Kd.R_elder' (ra_ HO489.out) (Kd.R_base ho0) hb)
     replace HO495 := rb_ HO495 hb
     replace HO501 := Aside0.mk (Kd.R_elder' (ra_ HO501.out) (Kd.R_base ho0) hb)
     replace HO509 := Aside0.mk (Kd.R_elder' (ra_ HO509.out) (Kd.R_base ho0) hb)
     replace HO513 := rb_ HO513 hb
     replace HO522 := Aside0.mk (Kd.R_elder' (ra_ HO522.out) (Kd.R_base ho0) hb)
     replace HO531 := Aside0.mk (Kd.R_elder' (ra_ HO531.out) (Kd.R_base ho0) hb)
     replace HO535 := rb_ HO535 hb
     replace HO550 := Aside0.mk (Kd.R_elder' (ra_ HO550.out) (Kd.R_base ho0) hb)
     replace HO556 := rb_ HO556 hb
     replace BK481 := bb_ BK481 hb
     replace BK482 := bb_ BK482 hb
     replace BK503 := bb_ BK503 hb
     replace BK510 := bb_ BK510 hb
     replace BK524 := bb_ BK524 hb
     replace HB := bt_ HB hb
     try clear hb
     (try clear ho0)
     refine hK.out _ _ ⟨cz_ BK481 0, cz_ BK481 1, cz_ BK481 2, cz_ BK481 3, cz_ BK482 0, cz_ BK482 1, cz_ BK482 2⟩ (fun hHeld => ?_)
     clear hK K
     refine nm_ (some 110) ?_
     refine px_ HT_ 8 102 511 ?_
     refine px_ HT_ 9 111 1023 ?_
     refine px_ HT_ 10 112 2047 ?_
     exact norm_ (by first | (simp only [putAll, Act.put, lstS, lstZ, lstC]; done) | (simp only [putAll, Act.put, lstS, lstZ, lstC]; rfl)) (hJ2_4_6_7 (.slice Ao120 t548.length co120, .slice Ao121 t554.length co121, v561) _ ⟨hHeld, (by (with_reducible repeat (first | apply Kd.R_alloc | apply Kd.R_drewN | apply Kd.R_drew)); exact Kd.R_mono HO489.out (fun _ hk => ⟨hk.1.1, ⟨hk.1.2.1, ⟨hk.1.2.2.1, ⟨hk.1.2.2.2.1, ⟨hk.1.2.2.2.2, hk.2⟩⟩⟩⟩⟩)), (ra_ HO495.out), (by (with_reducible repeat (first | apply Kd.R_alloc | apply Kd.R_drewN | apply Kd.R_drew)); exact Kd.R_mono HO501.out (fun _ hk => ⟨hk.1.1, ⟨hk.1.2.1, ⟨hk.1.2.2.1, ⟨hk.1.2.2.2.1, ⟨hk.1.2.2.2.2, hk.2⟩⟩⟩⟩⟩)), (by (with_reducible repeat (first | apply Kd.R_alloc | apply Kd.R_drewN | apply Kd.R_drew)); exact Kd.R_mono HO509.out (fun _ hk => ⟨hk.1.1, ⟨hk.1.2.1, ⟨hk.1.2.2.1, ⟨hk.1.2.2.2.1, ⟨hk.1.2.2.2.2, hk.2⟩⟩⟩⟩⟩)), (ra_ HO513.out), (by (with_reducible repeat (first | apply Kd.R_alloc | apply Kd.R_drewN | apply Kd.R_drew)); exact Kd.R_mono HO522.out (fun _ hk => ⟨hk.1.1, ⟨hk.1.2.1, ⟨hk.1.2.2.1, ⟨hk.1.2.2.2.1, ⟨hk.1.2.2.2.2, hk.2⟩⟩⟩⟩⟩)), (by (with_reducible repeat (first | apply Kd.R_alloc | apply Kd.R_drewN | apply Kd.R_drew)); exact Kd.R_mono HO531.out (fun _ hk => ⟨hk.1.1, ⟨hk.1.2.1, ⟨hk.1.2.2.1, ⟨hk.1.2.2.2.1, ⟨hk.1.2.2.2.2, hk.2⟩⟩⟩⟩⟩)), (ra_ HO535.out), (by (with_reducible repeat (first | apply Kd.R_alloc | apply Kd.R_drewN | apply Kd.R_drew)); exact Kd.R_mono HO550.out (fun _ hk => ⟨hk.1.1, ⟨hk.1.2.1, ⟨hk.1.2.2.1, ⟨hk.1.2.2.2.1, ⟨hk.1.2.2.2.2, hk.2⟩⟩⟩⟩⟩)), (ra_ HO556.out), (by (with_reducible repeat (first | apply Kd.R_alloc | apply Kd.R_drewN | apply Kd.R_drew)); exact Kd.R_mono HO562.out (fun _ hk => ⟨hk.1.1.1.1.1.2, ⟨hk.1.1.1.1.2, ⟨hk.1.1.1.2, ⟨hk.1.1.2, ⟨hk.1.2, hk.2⟩⟩⟩⟩⟩)), (bl_ BK481).out, (bl_ BK482).out, (bl_ BK503).out, (bl_ BK510).out, (bl_ BK524).out, (bw_ HB).out⟩)
    skip
    refine bz_ 19 #[.int .i64 0, .int .i64 0, .int .i64 0, .slice none 0 0] 34 ?_
    intro gb564 hg w120 BK564 hb
    have GW564 := bs_ HB hg
    have NB481_564 := bm_ BK481 hg
    have NB564_481 := bn_ BK481 hg
    have NB482_564 := bm_ BK482 hg
    have NB564_482 := bn_ BK482 hg
    have NB503_564 := bm_ BK503 hg
    have NB564_503 := bn_ BK503 hg
    have NB510_564 := bm_ BK510 hg
    have NB564_510 := bn_ BK510 hg
    have NB524_564 := bm_ BK524 hg
    have NB564_524 := bn_ BK524 hg
    replace HO489 := rb_ HO489 hb
    replace HO495 := rb_ HO495 hb
    replace HO501 := rb_ HO501 hb
    replace HO509 := rb_ HO509 hb
    replace HO513 := rb_ HO513 hb
    replace HO522 := rb_ HO522 hb
    replace HO531 := rb_ HO531 hb
    replace HO535 := rb_ HO535 hb
    replace HO550 := rb_ HO550 hb
    replace HO556 := rb_ HO556 hb
    replace BK481 := bb_ BK481 hb
    replace BK482 := bb_ BK482 hb
    replace BK503 := bb_ BK503 hb
    replace BK510 := bb_ BK510 hb
    replace BK524 := bb_ BK524 hb
    replace HB := bt_ HB hb
    clear hb hg
    refine hK.out _ _ ⟨cz_ BK481 0, cz_ BK481 1, cz_ BK481 2, cz_ BK481 3, cz_ BK482 0, cz_ BK482 1, cz_ BK482 2⟩ (fun hHeld => ?_)
    clear hK K
    refine nm_ (some 19) ?_
    exact norm_ (by first | (simp only [putAll, Act.put, lstS, lstZ, lstC]; done) | (simp only [putAll, Act.put, lstS, lstZ, lstC]; rfl)) (hJ2_4_6_11 (.slice Ao120 t548.length co120, .slice Ao121 t554.length co121, gb564) _ ⟨hHeld, (ra_ HO489.out), (ra_ HO495.out), (ra_ HO501.out), (ra_ HO509.out), (ra_ HO513.out), (ra_ HO522.out), (ra_ HO531.out), (ra_ HO535.out), (ra_ HO550.out), (ra_ HO556.out), (bl_ BK481).out, (bl_ BK482).out, (bl_ BK503).out, (bl_ BK510).out, (bl_ BK524).out, (bl_ BK564).out, GW564.out, GW564.out, NB481_564.out, NB564_481.out, NB482_564.out, NB564_482.out, NB503_564.out, NB564_503.out, NB510_564.out, NB564_510.out, NB524_564.out, NB564_524.out, (bw_ HB).out⟩)
   skip
   rintro ⟨v549, v555, gb564⟩ w120 ⟨hS_, h0_, h1_, h2_, h3_, h4_, h5_, h6_, h7_, h8_, h9_, h10_, h11_, h12_, h13_, h14_, h15_, h16_, h17_, h18_, h19_, h20_, h21_, h22_, h23_, h24_, h25_, h26_, h27_, h28_⟩
   clear HO489 HO495 HO501 HO509 HO513 HO522 HO531 HO535 BK481 BK482 BK503 BK510 BK524 HB
   have HO489 := Aside0.mk h0_
   have HO495 := Aside0.mk h1_
   have HO501 := Aside0.mk h2_
   have HO509 := Aside0.mk h3_
   have HO513 := Aside0.mk h4_
   have HO522 := Aside0.mk h5_
   have HO531 := Aside0.mk h6_
   have HO535 := Aside0.mk h7_
   have HO550 := Aside0.mk h8_
   have HO556 := Aside0.mk h9_
   have BK481 := Aside0.mk h10_
   have BK482 := Aside0.mk h11_
   have BK503 := Aside0.mk h12_
   have BK510 := Aside0.mk h13_
   have BK524 := Aside0.mk h14_
   have BK564 := Aside0.mk h15_
   have GW564 := Aside0.mk h16_
   have GW564 := Aside0.mk h17_
   have NB481_564 := Aside0.mk h18_
   have NB564_481 := Aside0.mk h19_
   have NB482_564 := Aside0.mk h20_
   have NB564_482 := Aside0.mk h21_
   have NB503_564 := Aside0.mk h22_
   have NB564_503 := Aside0.mk h23_
   have NB510_564 := Aside0.mk h24_
   have NB564_510 := Aside0.mk h25_
   have NB524_564 := Aside0.mk h26_
   have NB564_524 := Aside0.mk h27_
   have HB := Aside0.mk h28_
   clear h0_ h1_ h2_ h3_ h4_ h5_ h6_ h7_ h8_ h9_ h10_ h11_ h12_ h13_ h14_ h15_ h16_ h17_ h18_ h19_ h20_ h21_ h22_ h23_ h24_ h25_ h26_ h27_ h28_
   have hHeld : w120.cell? ⟨gb481, 0, none⟩ = some (.int .i64 a1_0) ∧ w120.cell? ⟨gb481, 1, none⟩ = some (.int .i64 a1_1) ∧ w120.cell? ⟨gb481, 2, none⟩ = some (.int .i64 a1_2) ∧ w120.cell? ⟨gb481, 3, none⟩ = some (.slice A1_3 l1_3.length c1_3) ∧ w120.cell? ⟨gb482, 0, none⟩ = some (.int .i64 a2_0) ∧ w120.cell? ⟨gb482, 1, none⟩ = some (.int .i64 a2_1) ∧ w120.cell? ⟨gb482, 2, none⟩ = some (.int .i64 a2_2) := hS_
   obtain ⟨Ao121, co121, eo121⟩ := Kd.R_slice HO550.out
   (first | subst eo121 | (injection eo121 with f1_ f2_ f3_; have f4_ := f1_.symm; have f5_ := f3_.symm; clear f1_ f2_ f3_; subst f4_; subst f5_))
   obtain ⟨Ao122, co122, eo122⟩ := Kd.R_slice HO556.out
   (first | subst eo122 | (injection eo122 with f1_ f2_ f3_; have f4_ := f1_.symm; have f5_ := f3_.symm; clear f1_ f2_ f3_; subst f4_; subst f5_))
   refine norm_ (a' := ?_) ?_ ?_
   rotate_left
   ·simp only [putAll, Act.put, lstS, lstZ, lstC]
    rfl
   refine on_ HT_ 7 (some 110) (bv_ 14 2303) (fun K hK => ?_)
   refine gs_ Try.func22 #[.int .i64 a0, .agg #[.int .i64 t545, .int .i64 t546, .int .i64 t547, .slice Ao121 t548.length co121], .agg #[.int .i64 t551, .int .i64 t552, .int .i64 t553], .slice Ao122 t554.length co122] ?_
   with_reducible refine (impl_RefineAt.calls k a0 t545 t546 t547 _ _ t548 t551 t552 t553 _ _ t554 t557 t558 t559 t560 t563 _ ?side1 ?side2 ?side3 ?side4 A44.out).mono ?_
   (case side1 => exact ca_ (Kd.R_reads' HO550.out).2.2)
   (case side2 => exact (Kd.R_reads' HO550.out).2.1)
   (case side3 => exact ca_ (Kd.R_reads' HO556.out).2.2)
   (case side4 => exact (Kd.R_reads' HO556.out).2.1)
   rintro e w123 ⟨v561, rfl, ho0, hb⟩
   refine ⟨_, rfl, ?_⟩
   have HO562 := Aside0.mk (Kd.R_lower (Kd.R_new' (Kd.R_new' (Kd.R_new' (Kd.R_new' (Kd.R_new' (Kd.R_new' ho0 (Kd.R_lt (ra_ HO489.out))) (Kd.R_lt (ra_ HO501.out))) (Kd.R_lt (ra_ HO509.out))) (Kd.R_lt (ra_ HO522.out))) (Kd.R_lt (ra_ HO531.out))) (Kd.R_lt (ra_ HO550.out))) (below_size (bw_ HB).out))
   replace HO489 := Aside0.mk (Kd.R_elder' (ra_ HO489.out) (Kd.R_base ho0) hb)
   replace HO495 := rb_ HO495 hb
   replace HO501 := Aside0.mk (Kd.R_elder' (ra_ HO501.out) (Kd.R_base ho0) hb)
   replace HO509 := Aside0.mk (Kd.R_elder' (ra_ HO509.out) (Kd.R_base ho0) hb)
   replace HO513 := rb_ HO513 hb
   replace HO522 := Aside0.mk (Kd.R_elder' (ra_ HO522.out) (Kd.R_base ho0) hb)
   replace HO531 := Aside0.mk (Kd.R_elder' (ra_ HO531.out) (Kd.R_base ho0) hb)
   replace HO535 := rb_ HO535 hb
   replace HO550 := Aside0.mk (Kd.R_elder' (ra_ HO550.out) (Kd.R_base ho0) hb)
   replace HO556 := rb_ HO556 hb
   replace BK481 := bb_ BK481 hb
   replace BK482 := bb_ BK482 hb
   replace BK503 := bb_ BK503 hb
   replace BK510 := bb_ BK510 hb
   replace BK524 := bb_ BK524 hb
   replace BK564 := bb_ BK564 hb
   replace HB := bt_ HB hb
   try clear hb
   (try clear ho0)
   refine hK.out _ _ ⟨cz_ BK481 0, cz_ BK481 1, cz_ BK481 2, cz_ BK481 3, cz_ BK482 0, cz_ BK482 1, cz_ BK482 2⟩ (fun hHeld => ?_)
   clear hK K
   refine nm_ (some 110) ?_
   refine px_ HT_ 8 102 2559 ?_
   refine px_ HT_ 9 111 3071 ?_
   refine px_ HT_ 10 112 4095 ?_
   exact norm_ (by first | (simp only [putAll, Act.put, lstS, lstZ, lstC]; done) | (simp only [putAll, Act.put, lstS, lstZ, lstC]; rfl)) (hJ2_4_6_7_11 (.slice Ao121 t548.length co121, .slice Ao122 t554.length co122, v561, gb564) _ ⟨hHeld, (by (with_reducible repeat (first | apply Kd.R_alloc | apply Kd.R_drewN | apply Kd.R_drew)); exact Kd.R_mono HO489.out (fun _ hk => ⟨hk.1.1, ⟨hk.1.2.1, ⟨hk.1.2.2.1, ⟨hk.1.2.2.2.1, ⟨hk.1.2.2.2.2, hk.2⟩⟩⟩⟩⟩)), (ra_ HO495.out), (by (with_reducible repeat (first | apply Kd.R_alloc | apply Kd.R_drewN | apply Kd.R_drew)); exact Kd.R_mono HO501.out (fun _ hk => ⟨hk.1.1, ⟨hk.1.2.1, ⟨hk.1.2.2.1, ⟨hk.1.2.2.2.1, ⟨hk.1.2.2.2.2, hk.2⟩⟩⟩⟩⟩)), (by (with_reducible repeat (first | apply Kd.R_alloc | apply Kd.R_drewN | apply Kd.R_drew)); exact Kd.R_mono HO509.out (fun _ hk => ⟨hk.1.1, ⟨hk.1.2.1, ⟨hk.1.2.2.1, ⟨hk.1.2.2.2.1, ⟨hk.1.2.2.2.2, hk.2⟩⟩⟩⟩⟩)), (ra_ HO513.out), (by (with_reducible repeat (first | apply Kd.R_alloc | apply Kd.R_drewN | apply Kd.R_drew)); exact Kd.R_mono HO522.out (fun _ hk => ⟨hk.1.1, ⟨hk.1.2.1, ⟨hk.1.2.2.1, ⟨hk.1.2.2.2.1, ⟨hk.1.2.2.2.2, hk.2⟩⟩⟩⟩⟩)), (by (with_reducible repeat (first | apply Kd.R_alloc | apply Kd.R_drewN | apply Kd.R_drew)); exact Kd.R_mono HO531.out (fun _ hk => ⟨hk.1.1, ⟨hk.1.2.1, ⟨hk.1.2.2.1, ⟨hk.1.2.2.2.1, ⟨hk.1.2.2.2.2, hk.2⟩⟩⟩⟩⟩)), (ra_ HO535.out), (by (with_reducible repeat (first | apply Kd.R_alloc | apply Kd.R_drewN | apply Kd.R_drew)); exact Kd.R_mono HO550.out (fun _ hk => ⟨hk.1.1, ⟨hk.1.2.1, ⟨hk.1.2.2.1, ⟨hk.1.2.2.2.1, ⟨hk.1.2.2.2.2, hk.2⟩⟩⟩⟩⟩)), (ra_ HO556.out), (by (with_reducible repeat (first | apply Kd.R_alloc | apply Kd.R_drewN | apply Kd.R_drew)); exact Kd.R_mono HO562.out (fun _ hk => ⟨hk.1.1.1.1.1.2, ⟨hk.1.1.1.1.2, ⟨hk.1.1.1.2, ⟨hk.1.1.2, ⟨hk.1.2, hk.2⟩⟩⟩⟩⟩)), (bl_ BK481).out, (bl_ BK482).out, (bl_ BK503).out, (bl_ BK510).out, (bl_ BK524).out, (bl_ BK564).out, GW564.out, GW564.out, NB481_564.out, NB564_481.out, NB482_564.out, NB564_482.out, NB503_564.out, NB564_503.out, NB510_564.out, NB564_510.out, NB524_564.out, NB564_524.out, (bw_ HB).out⟩)
  skip
  rintro ⟨v549, v555, v561⟩ w122 ⟨hS_, h0_, h1_, h2_, h3_, h4_, h5_, h6_, h7_, h8_, h9_, h10_, h11_, h12_, h13_, h14_, h15_, h16_⟩
  clear HO489 HO495 HO501 HO509 HO513 HO522 HO531 HO535 BK481 BK482 BK503 BK510 BK524 HB
  have HO489 := Aside0.mk h0_
  have HO495 := Aside0.mk h1_
  have HO501 := Aside0.mk h2_
  have HO509 := Aside0.mk h3_
  have HO513 := Aside0.mk h4_
  have HO522 := Aside0.mk h5_
  have HO531 := Aside0.mk h6_
  have HO535 := Aside0.mk h7_
  have HO550 := Aside0.mk h8_
  have HO556 := Aside0.mk h9_
  have HO562 := Aside0.mk h10_
  have BK481 := Aside0.mk h11_
  have BK482 := Aside0.mk h12_
  have BK503 := Aside0.mk h13_
  have BK510 := Aside0.mk h14_
  have BK524 := Aside0.mk h15_
  have HB := Aside0.mk h16_
  clear h0_ h1_ h2_ h3_ h4_ h5_ h6_ h7_ h8_ h9_ h10_ h11_ h12_ h13_ h14_ h15_ h16_
  have hHeld : w122.cell? ⟨gb481, 0, none⟩ = some (.int .i64 a1_0) ∧ w122.cell? ⟨gb481, 1, none⟩ = some (.int .i64 a1_1) ∧ w122.cell? ⟨gb481, 2, none⟩ = some (.int .i64 a1_2) ∧ w122.cell? ⟨gb481, 3, none⟩ = some (.slice A1_3 l1_3.length c1_3) ∧ w122.cell? ⟨gb482, 0, none⟩ = some (.int .i64 a2_0) ∧ w122.cell? ⟨gb482, 1, none⟩ = some (.int .i64 a2_1) ∧ w122.cell? ⟨gb482, 2, none⟩ = some (.int .i64 a2_2) := hS_
  refine norm_ (a' := ?_) ?_ ?_
  rotate_left
  ·simp only [putAll, Act.put, lstS, lstZ, lstC]
   rfl
  refine on_ HT_ 11 (some 19) (bv_ 14 4095) (fun K hK => ?_)
  refine bz_ 19 #[.int .i64 0, .int .i64 0, .int .i64 0, .slice none 0 0] 34 ?_
  intro gb564 hg w123 BK564 hb
  have GW564 := bs_ HB hg
  have NB481_564 := bm_ BK481 hg
  have NB564_481 := bn_ BK481 hg
  have NB482_564 := bm_ BK482 hg
  have NB564_482 := bn_ BK482 hg
  have NB503_564 := bm_ BK503 hg
  have NB564_503 := bn_ BK503 hg
  have NB510_564 := bm_ BK510 hg
  have NB564_510 := bn_ BK510 hg
  have NB524_564 := bm_ BK524 hg
  have NB564_524 := bn_ BK524 hg
  replace HO489 := rb_ HO489 hb
  replace HO495 := rb_ HO495 hb
  replace HO501 := rb_ HO501 hb
  replace HO509 := rb_ HO509 hb
  replace HO513 := rb_ HO513 hb
  replace HO522 := rb_ HO522 hb
  replace HO531 := rb_ HO531 hb
  replace HO535 := rb_ HO535 hb
  replace HO550 := rb_ HO550 hb
  replace HO556 := rb_ HO556 hb
  replace HO562 := rb_ HO562 hb
  replace BK481 := bb_ BK481 hb
  replace BK482 := bb_ BK482 hb
  replace BK503 := bb_ BK503 hb
  replace BK510 := bb_ BK510 hb
  replace BK524 := bb_ BK524 hb
  replace HB := bt_ HB hb
  clear hb hg
  refine hK.out _ _ ⟨cz_ BK481 0, cz_ BK481 1, cz_ BK481 2, cz_ BK481 3, cz_ BK482 0, cz_ BK482 1, cz_ BK482 2⟩ (fun hHeld => ?_)
  clear hK K
  refine nm_ (some 19) ?_
  exact norm_ (by first | (simp only [putAll, Act.put, lstS, lstZ, lstC]; done) | (simp only [putAll, Act.put, lstS, lstZ, lstC]; rfl)) (hJ2_4_6_7_11 (v549, v555, v561, gb564) _ ⟨hHeld, (ra_ HO489.out), (ra_ HO495.out), (ra_ HO501.out), (ra_ HO509.out), (ra_ HO513.out), (ra_ HO522.out), (ra_ HO531.out), (ra_ HO535.out), (ra_ HO550.out), (ra_ HO556.out), (ra_ HO562.out), (bl_ BK481).out, (bl_ BK482).out, (bl_ BK503).out, (bl_ BK510).out, (bl_ BK524).out, (bl_ BK564).out, GW564.out, GW564.out, NB481_564.out, NB564_481.out, NB482_564.out, NB564_482.out, NB503_564.out, NB564_503.out, NB510_564.out, NB564_510.out, NB524_564.out, NB564_524.out, (bw_ HB).out⟩)
 rintro ⟨v549, v555, v561, gb564⟩ w123 ⟨hS_, h0_, h1_, h2_, h3_, h4_, h5_, h6_, h7_, h8_, h9_, h10_, h11_, h12_, h13_, h14_, h15_, h16_, h17_, h18_, h19_, h20_, h21_, h22_, h23_, h24_, h25_, h26_, h27_, h28_, h29_⟩
 clear HO489 HO495 HO501 HO509 HO513 HO522 HO531 HO535 BK481 BK482 BK503 BK510 BK524 HB
 have HO489 := Aside0.mk h0_
 have HO495 := Aside0.mk h1_
 have HO501 := Aside0.mk h2_
 have HO509 := Aside0.mk h3_
 have HO513 := Aside0.mk h4_
 have HO522 := Aside0.mk h5_
 have HO531 := Aside0.mk h6_
 have HO535 := Aside0.mk h7_
 have HO550 := Aside0.mk h8_
 have HO556 := Aside0.mk h9_
 have HO562 := Aside0.mk h10_
 have BK481 := Aside0.mk h11_
 have BK482 := Aside0.mk h12_
 have BK503 := Aside0.mk h13_
 have BK510 := Aside0.mk h14_
 have BK524 := Aside0.mk h15_
 have BK564 := Aside0.mk h16_
 have GW564 := Aside0.mk h17_
 have GW564 := Aside0.mk h18_
 have NB481_564 := Aside0.mk h19_
 have NB564_481 := Aside0.mk h20_
 have NB482_564 := Aside0.mk h21_
 have NB564_482 := Aside0.mk h22_
 have NB503_564 := Aside0.mk h23_
 have NB564_503 := Aside0.mk h24_
 have NB510_564 := Aside0.mk h25_
 have NB564_510 := Aside0.mk h26_
 have NB524_564 := Aside0.mk h27_
 have NB564_524 := Aside0.mk h28_
 have HB := Aside0.mk h29_
 clear h0_ h1_ h2_ h3_ h4_ h5_ h6_ h7_ h8_ h9_ h10_ h11_ h12_ h13_ h14_ h15_ h16_ h17_ h18_ h19_ h20_ h21_ h22_ h23_ h24_ h25_ h26_ h27_ h28_ h29_
 have hHeld : w123.cell? ⟨gb481, 0, none⟩ = some (.int .i64 a1_0) ∧ w123.cell? ⟨gb481, 1, none⟩ = some (.int .i64 a1_1) ∧ w123.cell? ⟨gb481, 2, none⟩ = some (.int .i64 a1_2) ∧ w123.cell? ⟨gb481, 3, none⟩ = some (.slice A1_3 l1_3.length c1_3) ∧ w123.cell? ⟨gb482, 0, none⟩ = some (.int .i64 a2_0) ∧ w123.cell? ⟨gb482, 1, none⟩ = some (.int .i64 a2_1) ∧ w123.cell? ⟨gb482, 2, none⟩ = some (.int .i64 a2_2) := hS_
 obtain ⟨Ao127, co127, eo127⟩ := Kd.R_slice HO562.out
 (first | subst eo127 | (injection eo127 with f1_ f2_ f3_; have f4_ := f1_.symm; have f5_ := f3_.symm; clear f1_ f2_ f3_; subst f4_; subst f5_))
 refine norm_ (a' := ?_) ?_ ?_
 rotate_left
 ·simp only [putAll, Act.put, lstS, lstZ, lstC]
  rfl
 refine on_ HT_ 12 none (bv_ 14 8191) (fun K hK => ?_)
 have hs124 : w123.cell? ⟨gb564, 0, none⟩ = some (.int .i64 0) := (blk_cell BK564.out 0).trans rfl
 have hfs124 := blk_frozen BK564.out 0
 have hns124_0 := NB481_564.out
 have hns124_1 := NB482_564.out
 have hns124_2 := NB503_564.out
 have hns124_3 := NB510_564.out
 have hns124_4 := NB524_564.out
 have hms124_0 := NB564_481.out
 have hms124_1 := NB564_482.out
 have hms124_2 := NB564_503.out
 have hms124_3 := NB564_510.out
 have hms124_4 := NB564_524.out
 have hs125 : w123.cell? ⟨gb564, 1, none⟩ = some (.int .i64 0) := (blk_cell BK564.out 1).trans rfl
 have hfs125 := blk_frozen BK564.out 1
 have hns125_0 := NB481_564.out
 have hns125_1 := NB482_564.out
 have hns125_2 := NB503_564.out
 have hns125_3 := NB510_564.out
 have hns125_4 := NB524_564.out
 have hms125_0 := NB564_481.out
 have hms125_1 := NB564_482.out
 have hms125_2 := NB564_503.out
 have hms125_3 := NB564_510.out
 have hms125_4 := NB564_524.out
 have hs126 : w123.cell? ⟨gb564, 2, none⟩ = some (.int .i64 0) := (blk_cell BK564.out 2).trans rfl
 have hfs126 := blk_frozen BK564.out 2
 have hns126_0 := NB481_564.out
 have hns126_1 := NB482_564.out
 have hns126_2 := NB503_564.out
 have hns126_3 := NB510_564.out
 have hns126_4 := NB524_564.out
 have hms126_0 := NB564_481.out
 have hms126_1 := NB564_482.out
 have hms126_2 := NB564_503.out
 have hms126_3 := NB564_510.out
 have hms126_4 := NB564_524.out
 have hs128 : w123.cell? ⟨gb564, 3, none⟩ = some (.slice none 0 0) := (blk_cell BK564.out 3).trans rfl
 have hfs128 := blk_frozen BK564.out 3
 have hns128_0 := NB481_564.out
 have hns128_1 := NB482_564.out
 have hns128_2 := NB503_564.out
 have hns128_3 := NB510_564.out
 have hns128_4 := NB524_564.out
 have hms128_0 := NB564_481.out
 have hms128_1 := NB564_482.out
 have hms128_2 := NB564_503.out
 have hms128_3 := NB564_510.out
 have hms128_4 := NB564_524.out
 refine skip_ (w1 := ?_) (by rfl) rfl ?_ ?_
 rotate_left
 ·go_simp
  rfl
 refine hK.out _ _ ⟨(cg_ NB481_564 ((cg_ NB481_564 ((cg_ NB481_564 ((cg_ NB481_564 (hHeld.1)))))))), (cg_ NB481_564 ((cg_ NB481_564 ((cg_ NB481_564 ((cg_ NB481_564 (hHeld.2.1)))))))), (cg_ NB481_564 ((cg_ NB481_564 ((cg_ NB481_564 ((cg_ NB481_564 (hHeld.2.2.1)))))))), (cg_ NB481_564 ((cg_ NB481_564 ((cg_ NB481_564 ((cg_ NB481_564 (hHeld.2.2.2.1)))))))), (cg_ NB482_564 ((cg_ NB482_564 ((cg_ NB482_564 ((cg_ NB482_564 (hHeld.2.2.2.2.1)))))))), (cg_ NB482_564 ((cg_ NB482_564 ((cg_ NB482_564 ((cg_ NB482_564 (hHeld.2.2.2.2.2.1)))))))), (cg_ NB482_564 ((cg_ NB482_564 ((cg_ NB482_564 ((cg_ NB482_564 (hHeld.2.2.2.2.2.2))))))))⟩ (fun hHeld => ?_)
 clear hK K
 refine px_ HT_ 13 20 16383 ?_
 refine done_ (done_of HT_.out (by kernel_rfl)) ?_
 have hnb129 := NB564_481.out
 have hnc129 := NB481_564.out
 have hnb130 := NB564_482.out
 have hnc130 := NB482_564.out
 have hnb131 := NB564_503.out
 have hnc131 := NB503_564.out
 have hnb132 := NB564_510.out
 have hnc132 := NB510_564.out
 have hnb133 := NB564_524.out
 have hnc133 := NB524_564.out
 obtain ⟨hcz134_0, hcz134_1, hcz134_2, hcz134_3, hfz134_0, hfz134_1, hfz134_2, hfz134_3⟩ := ch4_ BK564
 obtain ⟨hcz135_0, hcz135_1, hcz135_2, hcz135_3, hfz135_0, hfz135_1, hfz135_2, hfz135_3⟩ := ch4_ BK503
 try go_wp2_with (first | ((refine gc_ 12 ?_); refine ge_ 115 Try.func12 #[.agg #[.int .i64 t557, .int .i64 t558, .int .i64 t559, .slice Ao127 t560.length co127], .agg #[.int .i64 t496, .int .i64 t497, .int .i64 t498, .slice Ao68 t499.length co68]] ?_; (with_reducible refine (laws_eqMeasure.calls k t557 t558 t559 _ _ t560 t496 t497 t498 _ _ t499 true _ ?side1 ?side2 ?side3 ?side4 A45.out).mono ?_); (case side1 => refine (Kd.R_reads' (e := 72) (base := w.heap.size) (ok := fun k_ => (some k_ ≠ (v488 : Value).ownBlock ∧ (some k_ ≠ (.slice Ao68 t499.length co68 : Value).ownBlock ∧ (some k_ ≠ (.slice Ao78 t507.length co78 : Value).ownBlock ∧ (some k_ ≠ (.slice Ao89 t520.length co89 : Value).ownBlock ∧ (some k_ ≠ (.slice Ao101 t529.length co101 : Value).ownBlock ∧ some k_ ≠ (v549 : Value).ownBlock)))))) (n := t560.length) (c := co127) ?_).2.2; exact (ra_ (rs4_ HO562.out BK564.out))); (case side2 => exact (Kd.R_reads' HO562.out).2.1); (case side3 => refine (Kd.R_reads' (e := 72) (base := w.heap.size) (ok := fun k_ => (some k_ ≠ (v488 : Value).ownBlock ∧ (some k_ ≠ (.slice Ao78 t507.length co78 : Value).ownBlock ∧ (some k_ ≠ (.slice Ao89 t520.length co89 : Value).ownBlock ∧ (some k_ ≠ (.slice Ao101 t529.length co101 : Value).ownBlock ∧ (some k_ ≠ (v549 : Value).ownBlock ∧ some k_ ≠ (.slice Ao127 t560.length co127 : Value).ownBlock)))))) (n := t499.length) (c := co68) ?_).2.2; exact (ra_ (rs4_ HO501.out BK564.out))); (case side4 => exact (Kd.R_reads' HO501.out).2.1); rintro e w136 ⟨rfl, hb⟩; refine ⟨_, rfl, ?_⟩; replace HO489 := Aside0.mk (Kd.R_below (ra_ (rs4_ HO489.out BK564.out)) hb); replace HO495 := Aside0.mk (Kd.R_below (ra_ (rs4_ HO495.out BK564.out)) hb); replace HO501 := Aside0.mk (Kd.R_below (ra_ (rs4_ HO501.out BK564.out)) hb); replace HO509 := Aside0.mk (Kd.R_below (ra_ (rs4_ HO509.out BK564.out)) hb); replace HO513 := Aside0.mk (Kd.R_below (ra_ (rs4_ HO513.out BK564.out)) hb); replace HO522 := Aside0.mk (Kd.R_below (ra_ (rs4_ HO522.out BK564.out)) hb); replace HO531 := Aside0.mk (Kd.R_below (ra_ (rs4_ HO531.out BK564.out)) hb); replace HO535 := Aside0.mk (Kd.R_below (ra_ (rs4_ HO535.out BK564.out)) hb); replace HO550 := Aside0.mk (Kd.R_below (ra_ (rs4_ HO550.out BK564.out)) hb); replace HO556 := Aside0.mk (Kd.R_below (ra_ (rs4_ HO556.out BK564.out)) hb); replace HO562 := Aside0.mk (Kd.R_below (ra_ (rs4_ HO562.out BK564.out)) hb); replace BK481 := fb_ BK481 NB481_564 hb; replace BK482 := fb_ BK482 NB482_564 hb; replace BK503 := fb_ BK503 NB503_564 hb; replace BK510 := fb_ BK510 NB510_564 hb; replace BK524 := fb_ BK524 NB524_564 hb; replace BK564 := Aside0.mk (blk_below (g := gb564) (o := .cells #[.int .i64 t557, .int .i64 t558, .int .i64 t559, .slice Ao127 t560.length co127] 34 (0, 0)) (bp_ BK564).out hb); replace HB := bt_ HB hb; (try clear hb); obtain ⟨hcz137_0, hcz137_1, hcz137_2, hcz137_3, hfz137_0, hfz137_1, hfz137_2, hfz137_3⟩ := ch4_ BK524) | ((refine gc_ 19 ?_); refine goesL_ (some 124) rfl rfl Try.func19 (by kernel_rfl) rfl #[.agg #[.int .i64 t517, .int .i64 t518, .int .i64 t519, .slice Ao89 t543.length co89], .int .i64 1] rfl (by (try simp only [List.map_toArray, List.map_cons, List.map_nil]); first | done | (rw [show t543.length = t520.length from (Kd.R_reads' HO522.out).1.symm] <;> rfl) | rfl | (simp only [List.length_drop, List.length_take]; rfl)) ?_; (with_reducible refine (laws_heldMeasure.calls k t517 t518 t519 _ _ t543 1 t566 _ ?side1 ?side2 A48.out).mono ?_); (case side1 => exact ca_ (Kd.R_reads' HO522.out).2.2); (case side2 => rw [show t543.length = t520.length from (Kd.R_reads' HO522.out).1.symm]; exact (Kd.R_reads' HO522.out).2.1); rintro e w138 ⟨rfl, hb⟩; refine ⟨_, rfl, ?_⟩; replace HO489 := rb_ HO489 hb; replace HO495 := rb_ HO495 hb; replace HO501 := rb_ HO501 hb; replace HO509 := rb_ HO509 hb; replace HO513 := rb_ HO513 hb; replace HO522 := rb_ HO522 hb; replace HO531 := rb_ HO531 hb; replace HO535 := rb_ HO535 hb; replace HO550 := rb_ HO550 hb; replace HO556 := rb_ HO556 hb; replace HO562 := rb_ HO562 hb; replace BK481 := bb_ BK481 hb; replace BK482 := bb_ BK482 hb; replace BK503 := bb_ BK503 hb; replace BK510 := bb_ BK510 hb; replace BK524 := bb_ BK524 hb; replace BK564 := bb_ BK564 hb; replace HB := bt_ HB hb; (try clear hb)))
 go_ret
 exact ⟨es_, (bw_ HB).out⟩
def laws_FnExactRefineAt.Pure : Prop := ∀ (a0 a1_0 a1_1 a1_2 : Int) (l1_3 : List (S103)) (a2_0 a2_1 a2_2 : Int) (l3 : List Int), (Lit.int .i64 a0).wf = true → (Lit.int .i64 a1_0).wf = true → (Lit.int .i64 a1_1).wf = true → (Lit.int .i64 a1_2).wf = true → l1_3.length ≤ maxLen → (∀ z ∈ l1_3, wfS103 z) → (Lit.int .i64 a2_0).wf = true → (Lit.int .i64 a2_1).wf = true → (Lit.int .i64 a2_2).wf = true → l3.length ≤ maxLen → (∀ z ∈ l3, (Lit.int .i64 z).wf = true) → ∃ k, laws_FnExactRefineAt.f k a0 a1_0 a1_1 a1_2 l1_3 a2_0 a2_1 a2_2 l3 = some true
end Go.Proofs.Ytdfcoebadjhjlaa.QH
