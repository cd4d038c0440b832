import Derived.Test.YtgoeelhiffbjlaaQBx32
import Derived.Test.YtgoeelhiffbjlaaQBx80
import Derived.Test.YtgoeelhiffbjlaaQBx88
import Derived.Test.YtgoeelhiffbjlaaQBx92
namespace Go.Proofs.Ytgoeelhiffbjlaa.QB
open Go.RowKit YtgoeelhiffbjlaaW.PrintWords YtgoeelhiffbjlaaW.PrintLast YtgoeelhiffbjlaaW.PrintMore
attribute [local go_sem] isSome_setCell max2_int min2_int max_two min_two max_three min_three max_four min_four
set_option linter.unusedVariables false
set_option linter.unusedSimpArgs false
def laws_FnExactBringOut.f (k : Nat) (a0 : Int) (l1 : List (S45)) (l2 : List (S158)) (a3_0 a3_1 : Int) : Option (Bool) := (laws_szMatrixS.f l1 1048576).bind fun t531 => (if t531 < 0 then (some true) else ((laws_szSideS.f l2 t531).bind fun t532 => (if t532 < 0 then (some true) else ((laws_toMatrixS.f k l1).bind fun t533 => ((laws_toSideS.f k l2).bind fun t536 => ((laws_toEnd.f a3_0 a3_1).bind fun bt539 => ((spec_BringOut.f k a0 t533 t536 bt539.1 bt539.2).bind fun bt541 => ((laws_toMatrixS.f k l1).bind fun t548 => ((laws_toSideS.f k l2).bind fun t551 => ((laws_toEnd.f a3_0 a3_1).bind fun bt554 => ((impl_BringOut.f k a0 t548 t551 bt554.1 bt554.2).bind fun bt556 => ((laws_eqInt64S.f k bt556.1 bt541.1).bind fun t563 => (if t563 = true then ((laws_eqEnd.f bt556.2.1 bt556.2.2.1 bt541.2.1 bt541.2.2.1).bind fun t564 => (if t564 = true then (if bt556.2.2.2 = bt541.2.2.2 then ((laws_toMatrixS.f k l1).bind fun t565 => ((laws_eqMatrixS.f k t548 t565).bind fun t568 => (if t568 = true then ((laws_toSideS.f k l2).bind fun t569 => ((laws_eqSideS.f k t551 t569).bind fun t572 => (if t572 = true then ((laws_markMatrixS.f k t548 1).bind fun t573 => ((laws_markSideS.f k t551 t573).bind fun bt574 => (if bt574.1 < 0 then (none) else ((laws_eqInt64S.f k bt556.1 bt541.1).bind fun t576 => (if t576 = true then ((laws_eqEnd.f bt556.2.1 bt556.2.2.1 bt541.2.1 bt541.2.2.1).bind fun t577 => (if t577 = true then ((laws_markInt64S.f k bt556.1 1).bind fun bt578 => ((laws_heldInt64S.f k bt578.2 1).bind fun t580 => (if t580 < 0 then (none) else (if t580 = bt578.1 then ((laws_toMatrixS.f k l1).bind fun t581 => ((laws_toSideS.f k l2).bind fun t584 => ((laws_toEnd.f a3_0 a3_1).bind fun bt587 => ((impl_BringOut.f k a0 t581 t584 bt587.1 bt587.2).bind fun bt589 => ((laws_eqInt64S.f k bt589.1 bt541.1).bind fun t596 => (if t596 = true then ((laws_eqEnd.f bt589.2.1 bt589.2.2.1 bt541.2.1 bt541.2.2.1).bind fun t597 => (if t597 = true then (if bt589.2.2.2 = bt541.2.2.2 then ((laws_heldInt64S.f k bt578.2 1).bind fun t598 => (if t598 < 0 then (none) else (if t598 = bt578.1 then (some true) else (none)))) else (none)) else (none))) else (none))))))) else (none))))) else (none))) else (none)))))) else (none)))) else (none)))) else (none)) else (none))) else (none))))))))))))))
def laws_FnExactBringOut.T8 : Bool × List (List Nat × List Nat) := (true, [([], []), ([], []), ([1], [1]), ([], []), ([3, 2], [3]), ([], []), ([5, 4], [5]), ([0, 2, 4, 6, 6], [0, 2, 4, 6]), ([7], [7]), ([8], [8]), ([8], [8]), ([8], [8]), ([], []), ([9, 7, 0, 1, 2, 3, 4, 5, 6, 7, 8, 9, 12], [9]), ([12, 10, 13, 0, 1, 2, 3, 4, 5, 6, 7, 8, 9, 10, 12, 13], [10, 12]), ([11, 14, 0, 1, 2, 3, 4, 5, 6, 7, 8, 9, 10, 11, 12, 13, 14], [11])])
def laws_FnExactBringOut.B8 : List Nat := [0, 0, 2, 0, 14, 0, 62, 127, 255, 511, 511, 511, 0, 5119, 14335, 32767]
theorem laws_FnExactBringOut.tab8 : rtab .any (opsOf Try.f7 8) = laws_FnExactBringOut.T8 := by kernel_rfl
theorem laws_FnExactBringOut.bits8 : waitsOk laws_FnExactBringOut.T8.2 laws_FnExactBringOut.B8 = true := by kernel_rfl
def laws_FnExactBringOut.T31 : Bool × List (List Nat × List Nat) := (true, [([], []), ([], []), ([1], [1]), ([], []), ([3, 2], [3]), ([], []), ([5, 4], [5]), ([0, 2, 4, 6, 6], [0, 2, 4, 6]), ([7], [7]), ([8], [8]), ([8], [8]), ([8], [8]), ([], []), ([9, 7, 0, 1, 2, 3, 4, 5, 6, 7, 8, 9, 12], [9]), ([12, 10, 13, 0, 1, 2, 3, 4, 5, 6, 7, 8, 9, 10, 12, 13], [10, 12]), ([11, 14, 0, 1, 2, 3, 4, 5, 6, 7, 8, 9, 10, 11, 12, 13, 14], [11])])
def laws_FnExactBringOut.B31 : List Nat := [0, 0, 2, 0, 14, 0, 62, 127, 255, 511, 511, 511, 0, 5119, 14335, 32767]
theorem laws_FnExactBringOut.tab31 : rtab .any (opsOf Try.f7 31) = laws_FnExactBringOut.T31 := by kernel_rfl
theorem laws_FnExactBringOut.bits31 : waitsOk laws_FnExactBringOut.T31.2 laws_FnExactBringOut.B31 = true := by kernel_rfl
set_option maxHeartbeats 8000000 in
set_option maxRecDepth 100000 in
theorem laws_FnExactBringOut.calls (k : Nat) (a0 : Int) (A1 : Option Addr) (c1 : Nat) (l1 : List (S45)) (A2 : Option Addr) (c2 : Nat) (l2 : List (S158)) (a3_0 a3_1 : Int) (r : Bool) (w : World) (hr1 : Kd.C k45 w A1 l1.length l1) (hc1 : l1.length ≤ c1) (hr2 : Kd.C k158 w A2 l2.length l2) (hc2 : l2.length ≤ c2) (h : laws_FnExactBringOut.f k a0 l1 l2 a3_0 a3_1 = some r) :
  Calls Try.prog 7 #[.int .i64 a0, .slice A1 l1.length c1, .slice A2 l2.length c2, .agg #[.int .i64 a3_0, .int .i64 a3_1]] w fun e w' => e = .returned (.bool r) ∧ Below w.heap.size w w' := by
 have hu71 := Try.underlying71
 have hu74 := Try.underlying74
 have HR1 := Aside0.mk hr1
 have HC1 := Aside0.mk hc1
 clear hr1 hc1
 have HR2 := Aside0.mk hr2
 have HC2 := Aside0.mk hc2
 clear hr2 hc2
 have HB := Aside0.mk (Below.refl w.heap.size w)
 unfold laws_FnExactBringOut.f at h
 have H := h
 clear h
 replace H := oc_ H
 obtain ⟨t531, A5, H⟩ := H
 replace H := il_ H
 rcases H with ⟨c6b0, H⟩ | ⟨c6b0, H⟩
 ·obtain rfl := si_ H
  go_enter Try.func7, Try.ntmps7
  go_wp2_with (first | ((refine gd_ 7 ?_); refine by_ 7 #[.int .i64 a3_0, .int .i64 a3_1] 71 HB ?_; intro gb530 hg w7 BK530 hb GW530 HB_; replace HB := HB_; clear hb hg) | ((refine gc_ 58 ?_); refine ge_ 26 Try.func58 #[.slice A1 l1.length c1, .int .i64 1048576] ?_; (with_reducible refine (laws_szMatrixS.calls _ _ l1 1048576 t531 _ ?side1 ?side2 A5.out).mono ?_); (case side1 => exact ca_ (Kd.C_below HR1.out HB.out)); (case side2 => exact HC1.out); rintro e w' ⟨rfl, ⟨nd, rfl⟩⟩; refine ⟨_, rfl, ?_⟩))
  go_ret
  exact ⟨es_, (bw_ HB).out⟩
 replace H := oc_ H
 obtain ⟨t532, A8, H⟩ := H
 replace H := il_ H
 rcases H with ⟨c9b0, H⟩ | ⟨c9b0, H⟩
 ·obtain rfl := si_ H
  go_enter Try.func7, Try.ntmps7
  go_wp2_with (first | ((refine gd_ 7 ?_); refine by_ 7 #[.int .i64 a3_0, .int .i64 a3_1] 71 HB ?_; intro gb530 hg w10 BK530 hb GW530 HB_; replace HB := HB_; clear hb hg) | ((refine gc_ 58 ?_); refine ge_ 26 Try.func58 #[.slice A1 l1.length c1, .int .i64 1048576] ?_; (with_reducible refine (laws_szMatrixS.calls _ _ l1 1048576 t531 _ ?side1 ?side2 A5.out).mono ?_); (case side1 => exact ca_ (Kd.C_below HR1.out HB.out)); (case side2 => exact HC1.out); rintro e w' ⟨rfl, ⟨nd, rfl⟩⟩; refine ⟨_, rfl, ?_⟩) | ((refine gc_ 59 ?_); refine ge_ 31 Try.func59 #[.slice A2 l2.length c2, .int .i64 t531] ?_; (with_reducible refine (laws_szSideS.calls _ _ l2 t531 t532 _ ?side1 ?side2 A8.out).mono ?_); (case side1 => exact ca_ (Kd.C_below HR2.out (bw_ HB).out)); (case side2 => exact HC2.out); rintro e w' ⟨rfl, ⟨nd, rfl⟩⟩; refine ⟨_, rfl, ?_⟩))
  go_ret
  exact ⟨es_, (bw_ HB).out⟩
 replace H := oc_ H
 obtain ⟨t533, A11, H⟩ := H
 replace H := oc_ H
 obtain ⟨t536, A12, H⟩ := H
 replace H := oc_ H
 obtain ⟨⟨t539, t540⟩, A13, H⟩ := H
 replace H := oc_ H
 obtain ⟨⟨t541, t544, t545, t546⟩, A14, H⟩ := H
 replace H := oc_ H
 obtain ⟨t548, A15, H⟩ := H
 replace H := oc_ H
 obtain ⟨t551, A16, H⟩ := H
 replace H := oc_ H
 obtain ⟨⟨t554, t555⟩, A17, H⟩ := H
 replace H := oc_ H
 obtain ⟨⟨t556, t559, t560, t561⟩, A18, H⟩ := H
 replace H := oc_ H
 obtain ⟨t563, A19, H⟩ := H
 replace H := ibn_ H
 obtain ⟨rfl, H⟩ := H
 replace H := oc_ H
 obtain ⟨t564, A21, H⟩ := H
 replace H := ibn_ H
 obtain ⟨rfl, H⟩ := H
 replace H := ien_ H
 obtain ⟨c23b0, c23b1, H⟩ := H
 replace H := oc_ H
 obtain ⟨t565, A24, H⟩ := H
 replace H := oc_ H
 obtain ⟨t568, A25, H⟩ := H
 replace H := ibn_ H
 obtain ⟨rfl, H⟩ := H
 replace H := oc_ H
 obtain ⟨t569, A27, H⟩ := H
 replace H := oc_ H
 obtain ⟨t572, A28, H⟩ := H
 replace H := ibn_ H
 obtain ⟨rfl, H⟩ := H
 replace H := oc_ H
 obtain ⟨t573, A30, H⟩ := H
 replace H := oc_ H
 obtain ⟨⟨t574, t575⟩, A31, H⟩ := H
 replace H := ilf_ H
 obtain ⟨c32b0, H⟩ := H
 replace H := oc_ H
 obtain ⟨t576, A33, H⟩ := H
 replace H := ibn_ H
 obtain ⟨rfl, H⟩ := H
 replace H := oc_ H
 obtain ⟨t577, A35, H⟩ := H
 replace H := ibn_ H
 obtain ⟨rfl, H⟩ := H
 replace H := oc_ H
 obtain ⟨⟨t578, t579⟩, A37, H⟩ := H
 replace H := oc_ H
 obtain ⟨t580, A38, H⟩ := H
 replace H := ilf_ H
 obtain ⟨c39b0, H⟩ := H
 replace H := ien_ H
 obtain ⟨c40b0, c40b1, H⟩ := H
 replace H := oc_ H
 obtain ⟨t581, A41, H⟩ := H
 replace H := oc_ H
 obtain ⟨t584, A42, H⟩ := H
 replace H := oc_ H
 obtain ⟨⟨t587, t588⟩, A43, H⟩ := H
 replace H := oc_ H
 obtain ⟨⟨t589, t592, t593, t594⟩, A44, H⟩ := H
 replace H := oc_ H
 obtain ⟨t596, A45, H⟩ := H
 replace H := ibn_ H
 obtain ⟨rfl, H⟩ := H
 replace H := oc_ H
 obtain ⟨t597, A47, H⟩ := H
 replace H := ibn_ H
 obtain ⟨rfl, H⟩ := H
 replace H := ien_ H
 obtain ⟨c49b0, c49b1, H⟩ := H
 replace H := oc_ H
 obtain ⟨t598, A50, H⟩ := H
 replace H := ilf_ H
 obtain ⟨c51b0, H⟩ := H
 replace H := ien_ H
 obtain ⟨c52b0, c52b1, H⟩ := H
 obtain rfl := si_ H
 go_enter Try.func7, Try.ntmps7
 try go_wp2_with (first | ((refine gd_ 7 ?_); refine by_ 7 #[.int .i64 a3_0, .int .i64 a3_1] 71 HB ?_; intro gb530 hg w53 BK530 hb GW530 HB_; replace HB := HB_; clear hb hg) | ((refine gc_ 58 ?_); refine ge_ 26 Try.func58 #[.slice A1 l1.length c1, .int .i64 1048576] ?_; (with_reducible refine (laws_szMatrixS.calls _ _ l1 1048576 t531 _ ?side1 ?side2 A5.out).mono ?_); (case side1 => exact ca_ (Kd.C_below HR1.out HB.out)); (case side2 => exact HC1.out); rintro e w' ⟨rfl, ⟨nd, rfl⟩⟩; refine ⟨_, rfl, ?_⟩; (try (rw [drewN_self w53]; generalize hq_ : World.drewN w53 _ = w53; replace BK530 := bq_ BK530 hq_; replace HB := hq_' HB hq_; clear hq_))) | ((refine gc_ 59 ?_); refine ge_ 31 Try.func59 #[.slice A2 l2.length c2, .int .i64 t531] ?_; (with_reducible refine (laws_szSideS.calls _ _ l2 t531 t532 _ ?side1 ?side2 A8.out).mono ?_); (case side1 => exact ca_ (Kd.C_below HR2.out HB.out)); (case side2 => exact HC2.out); rintro e w' ⟨rfl, ⟨nd, rfl⟩⟩; refine ⟨_, rfl, ?_⟩; (try (rw [drewN_self w53]; generalize hq_ : World.drewN w53 _ = w53; replace BK530 := bq_ BK530 hq_; replace HB := hq_' HB hq_; clear hq_))))
 replace BK530 := bd_ BK530
 replace HB := be_ HB
 refine start_ (n := 16) (S := fun w' => w'.cell? ⟨gb530, 0, none⟩ = some (.int .i64 a3_0) ∧ w'.cell? ⟨gb530, 1, none⟩ = some (.int .i64 a3_1)) (ds := []) (bv_ 16 0) (by kernel_rfl) rfl rfl ⟨cz_ BK530 0, cz_ BK530 1⟩ (fun hHeld => ?_); refine with_tabW laws_FnExactBringOut.tab8 laws_FnExactBringOut.bits8 (fun HT_ HW_ => ?_)
 generalize w53.drew = w54 at BK530 HB hHeld ⊢
 refine px_ HT_ 0 35 1 ?_
 refine px_ HT_ 1 36 3 ?_
 refine px_ HT_ 3 38 11 ?_
 refine ta_ HT_ HW_ 5 (some 40) (bv_ 16 43) hHeld ?_ (hy := by rintro w' ⟨s0, s1⟩; go_simp; with_reducible rfl)
 refine join_ (σ := Value × Value × Value × Nat) 3 (bv_ 16 8191) (fun s_ => [(37, s_.1), (39, s_.2.1), (41, .agg #[.int .i64 t539, .int .i64 t540]), (42, .tuple #[s_.2.2.1, .agg #[.int .i64 t544, .int .i64 t545], .int .i64 t546]), (11, .pointer (some ⟨s_.2.2.2, 0, none⟩)), (34, .tuple #[s_.2.2.1, .agg #[.int .i64 t544, .int .i64 t545], .int .i64 t546]), (43, s_.2.2.1), (44, .agg #[.int .i64 t544, .int .i64 t545]), (45, .int .i64 t546)]) (fun s_ w' => (w'.cell? ⟨gb530, 0, none⟩ = some (.int .i64 a3_0) ∧ w'.cell? ⟨gb530, 1, none⟩ = some (.int .i64 a3_1)) ∧ (Kd.R k46 46 w' w.heap.size (fun _ => True) s_.1 t533) ∧ (Kd.R k150 150 w' w.heap.size (fun _ => True) s_.2.1 t536) ∧ (Kd.R (Kd.int .i64) 2 w' w.heap.size (fun _ => True) s_.2.2.1 t541) ∧ (w'.heap[gb530]? = some (.cells #[.int .i64 a3_0, .int .i64 a3_1] 71 (0, 0))) ∧ (w'.heap[s_.2.2.2]? = some (.cells #[.int .i64 0, .int .i64 0] 74 (0, 0))) ∧ (w.heap.size ≤ s_.2.2.2) ∧ (w.heap.size ≤ s_.2.2.2) ∧ (gb530 ≠ s_.2.2.2) ∧ (s_.2.2.2 ≠ gb530) ∧ (Below w.heap.size w w')) ?_ ?_
 rotate_left
 ·intro hJ2_4_6_7_12
  refine join_ (σ := Value × Value × Value) 4 (bv_ 16 4095) (fun s_ => [(37, s_.1), (39, s_.2.1), (41, .agg #[.int .i64 t539, .int .i64 t540]), (42, .tuple #[s_.2.2, .agg #[.int .i64 t544, .int .i64 t545], .int .i64 t546]), (34, .tuple #[s_.2.2, .agg #[.int .i64 t544, .int .i64 t545], .int .i64 t546]), (43, s_.2.2), (44, .agg #[.int .i64 t544, .int .i64 t545]), (45, .int .i64 t546)]) (fun s_ w' => (w'.cell? ⟨gb530, 0, none⟩ = some (.int .i64 a3_0) ∧ w'.cell? ⟨gb530, 1, none⟩ = some (.int .i64 a3_1)) ∧ (Kd.R k46 46 w' w.heap.size (fun _ => True) s_.1 t533) ∧ (Kd.R k150 150 w' w.heap.size (fun _ => True) s_.2.1 t536) ∧ (Kd.R (Kd.int .i64) 2 w' w.heap.size (fun _ => True) s_.2.2 t541) ∧ (w'.heap[gb530]? = some (.cells #[.int .i64 a3_0, .int .i64 a3_1] 71 (0, 0))) ∧ (Below w.heap.size w w')) ?_ ?_
  rotate_left
  ·intro hJ2_4_6_7
   refine join_ (σ := Value × Value × Nat) 8 (bv_ 16 4223) (fun s_ => [(37, s_.1), (39, s_.2.1), (41, .agg #[.int .i64 t539, .int .i64 t540]), (11, .pointer (some ⟨s_.2.2, 0, none⟩))]) (fun s_ w' => (w'.cell? ⟨gb530, 0, none⟩ = some (.int .i64 a3_0) ∧ w'.cell? ⟨gb530, 1, none⟩ = some (.int .i64 a3_1)) ∧ (Kd.R k46 46 w' w.heap.size (fun _ => True) s_.1 t533) ∧ (Kd.R k150 150 w' w.heap.size (fun _ => True) s_.2.1 t536) ∧ (w'.heap[gb530]? = some (.cells #[.int .i64 a3_0, .int .i64 a3_1] 71 (0, 0))) ∧ (w'.heap[s_.2.2]? = some (.cells #[.int .i64 0, .int .i64 0] 74 (0, 0))) ∧ (w.heap.size ≤ s_.2.2) ∧ (w.heap.size ≤ s_.2.2) ∧ (gb530 ≠ s_.2.2) ∧ (s_.2.2 ≠ gb530) ∧ (Below w.heap.size w w')) ?_ ?_
   rotate_left
   ·intro hJ2_4_6_12
    refine join_ (σ := Value × Value) 9 (bv_ 16 127) (fun s_ => [(37, s_.1), (39, s_.2), (41, .agg #[.int .i64 t539, .int .i64 t540])]) (fun s_ w' => (w'.cell? ⟨gb530, 0, none⟩ = some (.int .i64 a3_0) ∧ w'.cell? ⟨gb530, 1, none⟩ = some (.int .i64 a3_1)) ∧ (Kd.R k46 46 w' w.heap.size (fun _ => True) s_.1 t533) ∧ (Kd.R k150 150 w' w.heap.size (fun _ => True) s_.2 t536) ∧ (w'.heap[gb530]? = some (.cells #[.int .i64 a3_0, .int .i64 a3_1] 71 (0, 0))) ∧ (Below w.heap.size w w')) ?_ ?_
    rotate_left
    ·intro hJ2_4_6
     refine join_ (σ := Value × Value × Nat) 9 (bv_ 16 4159) (fun s_ => [(37, s_.1), (39, s_.2.1), (11, .pointer (some ⟨s_.2.2, 0, none⟩))]) (fun s_ w' => (w'.cell? ⟨gb530, 0, none⟩ = some (.int .i64 a3_0) ∧ w'.cell? ⟨gb530, 1, none⟩ = some (.int .i64 a3_1)) ∧ (Kd.R k46 46 w' w.heap.size (fun _ => True) s_.1 t533) ∧ (Kd.R k150 150 w' w.heap.size (fun _ => True) s_.2.1 t536) ∧ (w'.heap[gb530]? = some (.cells #[.int .i64 a3_0, .int .i64 a3_1] 71 (0, 0))) ∧ (w'.heap[s_.2.2]? = some (.cells #[.int .i64 0, .int .i64 0] 74 (0, 0))) ∧ (w.heap.size ≤ s_.2.2) ∧ (w.heap.size ≤ s_.2.2) ∧ (gb530 ≠ s_.2.2) ∧ (s_.2.2 ≠ gb530) ∧ (Below w.heap.size w w')) ?_ ?_
     rotate_left
     ·intro hJ2_4_12
      refine join_ (σ := Value × Value) 10 (bv_ 16 63) (fun s_ => [(37, s_.1), (39, s_.2)]) (fun s_ w' => (w'.cell? ⟨gb530, 0, none⟩ = some (.int .i64 a3_0) ∧ w'.cell? ⟨gb530, 1, none⟩ = some (.int .i64 a3_1)) ∧ (Kd.R k46 46 w' w.heap.size (fun _ => True) s_.1 t533) ∧ (Kd.R k150 150 w' w.heap.size (fun _ => True) s_.2 t536) ∧ (w'.heap[gb530]? = some (.cells #[.int .i64 a3_0, .int .i64 a3_1] 71 (0, 0))) ∧ (Below w.heap.size w w')) ?_ ?_
      rotate_left
      ·intro hJ2_4
       refine join_ (σ := Value × Nat) 10 (bv_ 16 4143) (fun s_ => [(37, s_.1), (11, .pointer (some ⟨s_.2, 0, none⟩))]) (fun s_ w' => (w'.cell? ⟨gb530, 0, none⟩ = some (.int .i64 a3_0) ∧ w'.cell? ⟨gb530, 1, none⟩ = some (.int .i64 a3_1)) ∧ (Kd.R k46 46 w' w.heap.size (fun _ => True) s_.1 t533) ∧ (w'.heap[gb530]? = some (.cells #[.int .i64 a3_0, .int .i64 a3_1] 71 (0, 0))) ∧ (w'.heap[s_.2]? = some (.cells #[.int .i64 0, .int .i64 0] 74 (0, 0))) ∧ (w.heap.size ≤ s_.2) ∧ (w.heap.size ≤ s_.2) ∧ (gb530 ≠ s_.2) ∧ (s_.2 ≠ gb530) ∧ (Below w.heap.size w w')) ?_ ?_
       rotate_left
       ·intro hJ2_12
        refine join_ (σ := Value) 11 (bv_ 16 47) (fun s_ => [(37, s_)]) (fun s_ w' => (w'.cell? ⟨gb530, 0, none⟩ = some (.int .i64 a3_0) ∧ w'.cell? ⟨gb530, 1, none⟩ = some (.int .i64 a3_1)) ∧ (Kd.R k46 46 w' w.heap.size (fun _ => True) s_ t533) ∧ (w'.heap[gb530]? = some (.cells #[.int .i64 a3_0, .int .i64 a3_1] 71 (0, 0))) ∧ (Below w.heap.size w w')) ?_ ?_
        rotate_left
        ·intro hJ2
         refine join_ (σ := Nat) 11 (bv_ 16 4139) (fun s_ => [(11, .pointer (some ⟨s_, 0, none⟩))]) (fun s_ w' => (w'.cell? ⟨gb530, 0, none⟩ = some (.int .i64 a3_0) ∧ w'.cell? ⟨gb530, 1, none⟩ = some (.int .i64 a3_1)) ∧ (w'.heap[gb530]? = some (.cells #[.int .i64 a3_0, .int .i64 a3_1] 71 (0, 0))) ∧ (w'.heap[s_]? = some (.cells #[.int .i64 0, .int .i64 0] 74 (0, 0))) ∧ (w.heap.size ≤ s_) ∧ (w.heap.size ≤ s_) ∧ (gb530 ≠ s_) ∧ (s_ ≠ gb530) ∧ (Below w.heap.size w w')) ?_ ?_
         rotate_left
         ·intro hJ12
          refine tw_ HT_ 2 12 (some 37) (some 11) (bv_ 16 47) (bv_ 16 4139) (fun K hK => ?_) (fun K hK => ?_)
          ·skip
           refine gs_ Try.func61 #[.slice A1 l1.length c1] ?_
           with_reducible refine (laws_toMatrixS.calls k _ _ l1 t533 _ ?side1 ?side2 A11.out).mono ?_
           (case side1 => exact ca_ (Kd.C_below HR1.out HB.out))
           (case side2 => exact HC1.out)
           rintro e w55 ⟨v534, rfl, ho0, hb⟩
           refine ⟨_, rfl, ?_⟩
           have HO535 := Aside0.mk (Kd.R_lower ho0 (below_size (bw_ HB).out))
           replace BK530 := bb_ BK530 hb
           replace HB := bt_ HB hb
           try clear hb
           (try clear ho0)
           refine hK.out _ _ ⟨cz_ BK530 0, cz_ BK530 1⟩ (fun hHeld => ?_)
           clear hK K
           refine nm_ (some 37) ?_
           exact norm_ (by first | (simp only [putAll, Act.put, lstS, lstZ, lstC]; done) | (simp only [putAll, Act.put, lstS, lstZ, lstC]; rfl)) (hJ2 (v534) _ ⟨hHeld, (ra_ HO535.out), (bl_ BK530).out, (bw_ HB).out⟩)
          skip
          refine bz_ 11 #[.int .i64 0, .int .i64 0] 74 ?_
          intro gb547 hg w55 BK547 hb
          have GW547 := bs_ HB hg
          have NB530_547 := bm_ BK530 hg
          have NB547_530 := bn_ BK530 hg
          replace BK530 := bb_ BK530 hb
          replace HB := bt_ HB hb
          clear hb hg
          refine hK.out _ _ ⟨cz_ BK530 0, cz_ BK530 1⟩ (fun hHeld => ?_)
          clear hK K
          refine nm_ (some 11) ?_
          exact norm_ (by first | (simp only [putAll, Act.put, lstS, lstZ, lstC]; done) | (simp only [putAll, Act.put, lstS, lstZ, lstC]; rfl)) (hJ12 (gb547) _ ⟨hHeld, (bl_ BK530).out, (bl_ BK547).out, GW547.out, GW547.out, NB530_547.out, NB547_530.out, (bw_ HB).out⟩)
         skip
         rintro gb547 w56 ⟨hS_, h0_, h1_, h2_, h3_, h4_, h5_, h6_⟩
         clear BK530 HB
         have BK530 := Aside0.mk h0_
         have BK547 := Aside0.mk h1_
         have GW547 := Aside0.mk h2_
         have GW547 := Aside0.mk h3_
         have NB530_547 := Aside0.mk h4_
         have NB547_530 := Aside0.mk h5_
         have HB := Aside0.mk h6_
         clear h0_ h1_ h2_ h3_ h4_ h5_ h6_
         have hHeld : w56.cell? ⟨gb530, 0, none⟩ = some (.int .i64 a3_0) ∧ w56.cell? ⟨gb530, 1, none⟩ = some (.int .i64 a3_1) := hS_
         refine norm_ (a' := ?_) ?_ ?_
         rotate_left
         ·simp only [putAll, Act.put, lstS, lstZ, lstC]
          rfl
         refine on_ HT_ 2 (some 37) (bv_ 16 4143) (fun K hK => ?_)
         refine gs_ Try.func61 #[.slice A1 l1.length c1] ?_
         with_reducible refine (laws_toMatrixS.calls k _ _ l1 t533 _ ?side1 ?side2 A11.out).mono ?_
         (case side1 => exact ca_ (Kd.C_below HR1.out HB.out))
         (case side2 => exact HC1.out)
         rintro e w57 ⟨v534, rfl, ho0, hb⟩
         refine ⟨_, rfl, ?_⟩
         have HO535 := Aside0.mk (Kd.R_lower ho0 (below_size (bw_ HB).out))
         replace BK530 := bb_ BK530 hb
         replace BK547 := bb_ BK547 hb
         replace HB := bt_ HB hb
         try clear hb
         (try clear ho0)
         refine hK.out _ _ ⟨cz_ BK530 0, cz_ BK530 1⟩ (fun hHeld => ?_)
         clear hK K
         refine nm_ (some 37) ?_
         exact norm_ (by first | (simp only [putAll, Act.put, lstS, lstZ, lstC]; done) | (simp only [putAll, Act.put, lstS, lstZ, lstC]; rfl)) (hJ2_12 (v534, gb547) _ ⟨hHeld, (ra_ HO535.out), (bl_ BK530).out, (bl_ BK547).out, GW547.out, GW547.out, NB530_547.out, NB547_530.out, (bw_ HB).out⟩)
        skip
        rintro v534 w56 ⟨hS_, h0_, h1_, h2_⟩
        clear BK530 HB
        have HO535 := Aside0.mk h0_
        have BK530 := Aside0.mk h1_
        have HB := Aside0.mk h2_
        clear h0_ h1_ h2_
        have hHeld : w56.cell? ⟨gb530, 0, none⟩ = some (.int .i64 a3_0) ∧ w56.cell? ⟨gb530, 1, none⟩ = some (.int .i64 a3_1) := hS_
        refine norm_ (a' := ?_) ?_ ?_
        rotate_left
        ·simp only [putAll, Act.put, lstS, lstZ, lstC]
         rfl
        refine tw_ HT_ 4 12 (some 39) (some 11) (bv_ 16 63) (bv_ 16 4143) (fun K hK => ?_) (fun K hK => ?_)
        ·skip
         refine gs_ Try.func62 #[.slice A2 l2.length c2] ?_
         with_reducible refine (laws_toSideS.calls k _ _ l2 t536 _ ?side1 ?side2 A12.out).mono ?_
         (case side1 => exact ca_ (Kd.C_below HR2.out HB.out))
         (case side2 => exact HC2.out)
         rintro e w57 ⟨v537, rfl, ho0, hb⟩
         refine ⟨_, rfl, ?_⟩
         have HO538 := Aside0.mk (Kd.R_lower ho0 (below_size (bw_ HB).out))
         replace HO535 := rb_ HO535 hb
         replace BK530 := bb_ BK530 hb
         replace HB := bt_ HB hb
         try clear hb
         (try clear ho0)
         refine hK.out _ _ ⟨cz_ BK530 0, cz_ BK530 1⟩ (fun hHeld => ?_)
         clear hK K
         refine nm_ (some 39) ?_
         exact norm_ (by first | (simp only [putAll, Act.put, lstS, lstZ, lstC]; done) | (simp only [putAll, Act.put, lstS, lstZ, lstC]; rfl)) (hJ2_4 (v534, v537) _ ⟨hHeld, (ra_ HO535.out), (ra_ HO538.out), (bl_ BK530).out, (bw_ HB).out⟩)
        skip
        refine bz_ 11 #[.int .i64 0, .int .i64 0] 74 ?_
        intro gb547 hg w57 BK547 hb
        have GW547 := bs_ HB hg
        have NB530_547 := bm_ BK530 hg
        have NB547_530 := bn_ BK530 hg
        replace HO535 := rb_ HO535 hb
        replace BK530 := bb_ BK530 hb
        replace HB := bt_ HB hb
        clear hb hg
        refine hK.out _ _ ⟨cz_ BK530 0, cz_ BK530 1⟩ (fun hHeld => ?_)
        clear hK K
        refine nm_ (some 11) ?_
        exact norm_ (by first | (simp only [putAll, Act.put, lstS, lstZ, lstC]; done) | (simp only [putAll, Act.put, lstS, lstZ, lstC]; rfl)) (hJ2_12 (v534, gb547) _ ⟨hHeld, (ra_ HO535.out), (bl_ BK530).out, (bl_ BK547).out, GW547.out, GW547.out, NB530_547.out, NB547_530.out, (bw_ HB).out⟩)
       skip
       rintro ⟨v534, gb547⟩ w57 ⟨hS_, h0_, h1_, h2_, h3_, h4_, h5_, h6_, h7_⟩
       clear BK530 HB
       have HO535 := Aside0.mk h0_
       have BK530 := Aside0.mk h1_
       have BK547 := Aside0.mk h2_
       have GW547 := Aside0.mk h3_
       have GW547 := Aside0.mk h4_
       have NB530_547 := Aside0.mk h5_
       have NB547_530 := Aside0.mk h6_
       have HB := Aside0.mk h7_
       clear h0_ h1_ h2_ h3_ h4_ h5_ h6_ h7_
       have hHeld : w57.cell? ⟨gb530, 0, none⟩ = some (.int .i64 a3_0) ∧ w57.cell? ⟨gb530, 1, none⟩ = some (.int .i64 a3_1) := hS_
       refine norm_ (a' := ?_) ?_ ?_
       rotate_left
       ·simp only [putAll, Act.put, lstS, lstZ, lstC]
        rfl
       refine on_ HT_ 4 (some 39) (bv_ 16 4159) (fun K hK => ?_)
       refine gs_ Try.func62 #[.slice A2 l2.length c2] ?_
       with_reducible refine (laws_toSideS.calls k _ _ l2 t536 _ ?side1 ?side2 A12.out).mono ?_
       (case side1 => exact ca_ (Kd.C_below HR2.out HB.out))
       (case side2 => exact HC2.out)
       rintro e w58 ⟨v537, rfl, ho0, hb⟩
       refine ⟨_, rfl, ?_⟩
       have HO538 := Aside0.mk (Kd.R_lower ho0 (below_size (bw_ HB).out))
       replace HO535 := rb_ HO535 hb
       replace BK530 := bb_ BK530 hb
       replace BK547 := bb_ BK547 hb
       replace HB := bt_ HB hb
       try clear hb
       (try clear ho0)
       refine hK.out _ _ ⟨cz_ BK530 0, cz_ BK530 1⟩ (fun hHeld => ?_)
       clear hK K
       refine nm_ (some 39) ?_
       exact norm_ (by first | (simp only [putAll, Act.put, lstS, lstZ, lstC]; done) | (simp only [putAll, Act.put, lstS, lstZ, lstC]; rfl)) (hJ2_4_12 (v534, v537, gb547) _ ⟨hHeld, (ra_ HO535.out), (ra_ HO538.out), (bl_ BK530).out, (bl_ BK547).out, GW547.out, GW547.out, NB530_547.out, NB547_530.out, (bw_ HB).out⟩)
      skip
      rintro ⟨v534, v537⟩ w57 ⟨hS_, h0_, h1_, h2_, h3_⟩
      clear BK530 HB
      have HO535 := Aside0.mk h0_
      have HO538 := Aside0.mk h1_
      have BK530 := Aside0.mk h2_
      have HB := Aside0.mk h3_
      clear h0_ h1_ h2_ h3_
      have hHeld : w57.cell? ⟨gb530, 0, none⟩ = some (.int .i64 a3_0) ∧ w57.cell? ⟨gb530, 1, none⟩ = some (.int .i64 a3_1) := hS_
      refine norm_ (a' := ?_) ?_ ?_
      rotate_left
      ·simp only [putAll, Act.put, lstS, lstZ, lstC]
       rfl
      refine tw_ HT_ 6 12 (some 41) (some 11) (bv_ 16 127) (bv_ 16 4159) (fun K hK => ?_) (fun K hK => ?_)
      ·skip
       refine gs_ Try.func63 #[.agg #[.int .i64 a3_0, .int .i64 a3_1]] ?_
       with_reducible refine (laws_toEnd.calls a3_0 a3_1 t539 t540 _ A13.out).mono ?_
       rintro e w58 ⟨rfl, hb⟩
       refine ⟨_, rfl, ?_⟩
       replace HO535 := rb_ HO535 hb
       replace HO538 := rb_ HO538 hb
       replace BK530 := bb_ BK530 hb
       replace HB := bt_ HB hb
       try clear hb
       refine hK.out _ _ ⟨cz_ BK530 0, cz_ BK530 1⟩ (fun hHeld => ?_)
       clear hK K
       refine nm_ (some 41) ?_
       exact norm_ (by first | (simp only [putAll, Act.put, lstS, lstZ, lstC]; done) | (simp only [putAll, Act.put, lstS, lstZ, lstC]; rfl)) (hJ2_4_6 (v534, v537) _ ⟨hHeld, (ra_ HO535.out), (ra_ HO538.out), (bl_ BK530).out, (bw_ HB).out⟩)
      skip
      refine bz_ 11 #[.int .i64 0, .int .i64 0] 74 ?_
      intro gb547 hg w58 BK547 hb
      have GW547 := bs_ HB hg
      have NB530_547 := bm_ BK530 hg
      have NB547_530 := bn_ BK530 hg
      replace HO535 := rb_ HO535 hb
      replace HO538 := rb_ HO538 hb
      replace BK530 := bb_ BK530 hb
      replace HB := bt_ HB hb
      clear hb hg
      refine hK.out _ _ ⟨cz_ BK530 0, cz_ BK530 1⟩ (fun hHeld => ?_)
      clear hK K
      refine nm_ (some 11) ?_
      exact norm_ (by first | (simp only [putAll, Act.put, lstS, lstZ, lstC]; done) | (simp only [putAll, Act.put, lstS, lstZ, lstC]; rfl)) (hJ2_4_12 (v534, v537, gb547) _ ⟨hHeld, (ra_ HO535.out), (ra_ HO538.out), (bl_ BK530).out, (bl_ BK547).out, GW547.out, GW547.out, NB530_547.out, NB547_530.out, (bw_ HB).out⟩)
     skip
     rintro ⟨v534, v537, gb547⟩ w58 ⟨hS_, h0_, h1_, h2_, h3_, h4_, h5_, h6_, h7_, h8_⟩
     clear BK530 HB
     have HO535 := Aside0.mk h0_
     have HO538 := Aside0.mk h1_
     have BK530 := Aside0.mk h2_
     have BK547 := Aside0.mk h3_
     have GW547 := Aside0.mk h4_
     have GW547 := Aside0.mk h5_
     have NB530_547 := Aside0.mk h6_
     have NB547_530 := Aside0.mk h7_
     have HB := Aside0.mk h8_
     clear h0_ h1_ h2_ h3_ h4_ h5_ h6_ h7_ h8_
     have hHeld : w58.cell? ⟨gb530, 0, none⟩ = some (.int .i64 a3_0) ∧ w58.cell? ⟨gb530, 1, none⟩ = some (.int .i64 a3_1) := hS_
     refine norm_ (a' := ?_) ?_ ?_
     rotate_left
     ·simp only [putAll, Act.put, lstS, lstZ, lstC]
      rfl
     refine on_ HT_ 6 (some 41) (bv_ 16 4223) (fun K hK => ?_)
     refine gs_ Try.func63 #[.agg #[.int .i64 a3_0, .int .i64 a3_1]] ?_
     with_reducible refine (laws_toEnd.calls a3_0 a3_1 t539 t540 _ A13.out).mono ?_
     rintro e w59 ⟨rfl, hb⟩
     refine ⟨_, rfl, ?_⟩
     replace HO535 := rb_ HO535 hb
     replace HO538 := rb_ HO538 hb
     replace BK530 := bb_ BK530 hb
     replace BK547 := bb_ BK547 hb
     replace HB := bt_ HB hb
     try clear hb
     refine hK.out _ _ ⟨cz_ BK530 0, cz_ BK530 1⟩ (fun hHeld => ?_)
     clear hK K
     refine nm_ (some 41) ?_
     exact norm_ (by first | (simp only [putAll, Act.put, lstS, lstZ, lstC]; done) | (simp only [putAll, Act.put, lstS, lstZ, lstC]; rfl)) (hJ2_4_6_12 (v534, v537, gb547) _ ⟨hHeld, (ra_ HO535.out), (ra_ HO538.out), (bl_ BK530).out, (bl_ BK547).out, GW547.out, GW547.out, NB530_547.out, NB547_530.out, (bw_ HB).out⟩)
    skip
    rintro ⟨v534, v537⟩ w58 ⟨hS_, h0_, h1_, h2_, h3_⟩
    clear BK530 HB
    have HO535 := Aside0.mk h0_
    have HO538 := Aside0.mk h1_
    have BK530 := Aside0.mk h2_
    have HB := Aside0.mk h3_
    clear h0_ h1_ h2_ h3_
    have hHeld : w58.cell? ⟨gb530, 0, none⟩ = some (.int .i64 a3_0) ∧ w58.cell? ⟨gb530, 1, none⟩ = some (.int .i64 a3_1) := hS_
    obtain ⟨Ao59, co59, eo59⟩ := Kd.R_slice HO535.out
    (first | subst eo59 | (injection eo59 with f1_ f2_ f3_; have f4_ := f1_.symm; have f5_ := f3_.symm; clear f1_ f2_ f3_; subst f4_; subst f5_))
    obtain ⟨Ao60, co60, eo60⟩ := Kd.R_slice HO538.out
    (first | subst eo60 | (injection eo60 with f1_ f2_ f3_; have f4_ := f1_.symm; have f5_ := f3_.symm; clear f1_ f2_ f3_; subst f4_; subst f5_))
    refine norm_ (a' := ?_) ?_ ?_
    rotate_left
    ·simp only [putAll, Act.put, lstS, lstZ, lstC]
     rfl
    refine tw_ HT_ 7 12 (some 42) (some 11) (bv_ 16 255) (bv_ 16 4223) (fun K hK => ?_) (fun K hK => ?_)
    ·skip
     refine gs_ Try.func60 #[.int .i64 a0, .slice Ao59 t533.length co59, .slice Ao60 t536.length co60, .agg #[.int .i64 t539, .int .i64 t540]] ?_
     with_reducible refine (spec_BringOut.calls k a0 _ _ t533 _ _ t536 t539 t540 t541 t544 t545 t546 _ ?side1 ?side2 ?side3 ?side4 A14.out).mono ?_
     (case side1 => exact ca_ (Kd.R_reads' HO535.out).2.2)
     (case side2 => exact (Kd.R_reads' HO535.out).2.1)
     (case side3 => exact ca_ (Kd.R_reads' HO538.out).2.2)
     (case side4 => exact (Kd.R_reads' HO538.out).2.1)
     rintro e w61 ⟨v542, rfl, ho0, hb⟩
     refine ⟨_, rfl, ?_⟩
     have HO543 := Aside0.mk (Kd.R_lower ho0 (below_size (bw_ HB).out))
     replace HO535 := rb_ HO535 hb
     replace HO538 := rb_ HO538 hb
     replace BK530 := bb_ BK530 hb
     replace HB := bt_ HB hb
     try clear hb
     (try clear ho0)
     refine hK.out _ _ ⟨cz_ BK530 0, cz_ BK530 1⟩ (fun hHeld => ?_)
     clear hK K
     refine nm_ (some 42) ?_
     refine px_ HT_ 8 34 511 ?_
     refine px_ HT_ 9 43 1023 ?_
     refine px_ HT_ 10 44 2047 ?_
     refine px_ HT_ 11 45 4095 ?_
     exact norm_ (by first | (simp only [putAll, Act.put, lstS, lstZ, lstC]; done) | (simp only [putAll, Act.put, lstS, lstZ, lstC]; rfl)) (hJ2_4_6_7 (.slice Ao59 t533.length co59, .slice Ao60 t536.length co60, v542) _ ⟨hHeld, (ra_ HO535.out), (ra_ HO538.out), (ra_ HO543.out), (bl_ BK530).out, (bw_ HB).out⟩)
    skip
    refine bz_ 11 #[.int .i64 0, .int .i64 0] 74 ?_
    intro gb547 hg w59 BK547 hb
    have GW547 := bs_ HB hg
    have NB530_547 := bm_ BK530 hg
    have NB547_530 := bn_ BK530 hg
    replace HO535 := rb_ HO535 hb
    replace HO538 := rb_ HO538 hb
    replace BK530 := bb_ BK530 hb
    replace HB := bt_ HB hb
    clear hb hg
    refine hK.out _ _ ⟨cz_ BK530 0, cz_ BK530 1⟩ (fun hHeld => ?_)
    clear hK K
    refine nm_ (some 11) ?_
    exact norm_ (by first | (simp only [putAll, Act.put, lstS, lstZ, lstC]; done) | (simp only [putAll, Act.put, lstS, lstZ, lstC]; rfl)) (hJ2_4_6_12 (.slice Ao59 t533.length co59, .slice Ao60 t536.length co60, gb547) _ ⟨hHeld, (ra_ HO535.out), (ra_ HO538.out), (bl_ BK530).out, (bl_ BK547).out, GW547.out, GW547.out, NB530_547.out, NB547_530.out, (bw_ HB).out⟩)
   skip
   rintro ⟨v534, v537, gb547⟩ w59 ⟨hS_, h0_, h1_, h2_, h3_, h4_, h5_, h6_, h7_, h8_⟩
   clear BK530 HB
   have HO535 := Aside0.mk h0_
   have HO538 := Aside0.mk h1_
   have BK530 := Aside0.mk h2_
   have BK547 := Aside0.mk h3_
   have GW547 := Aside0.mk h4_
   have GW547 := Aside0.mk h5_
   have NB530_547 := Aside0.mk h6_
   have NB547_530 := Aside0.mk h7_
   have HB := Aside0.mk h8_
   clear h0_ h1_ h2_ h3_ h4_ h5_ h6_ h7_ h8_
   have hHeld : w59.cell? ⟨gb530, 0, none⟩ = some (.int .i64 a3_0) ∧ w59.cell? ⟨gb530, 1, none⟩ = some (.int .i64 a3_1) := hS_
   obtain ⟨Ao60, co60, eo60⟩ := Kd.R_slice HO535.out
   (first | subst eo60 | (injection eo60 with f1_ f2_ f3_; have f4_ := f1_.symm; have f5_ := f3_.symm; clear f1_ f2_ f3_; subst f4_; subst f5_))
   obtain ⟨Ao61, co61, eo61⟩ := Kd.R_slice HO538.out
   (first | subst eo61 | (injection eo61 with f1_ f2_ f3_; have f4_ := f1_.symm; have f5_ := f3_.symm; clear f1_ f2_ f3_; subst f4_; subst f5_))
   refine norm_ (a' := ?_) ?_ ?_
   rotate_left
   ·simp only [putAll, Act.put, lstS, lstZ, lstC]
    rfl
   refine on_ HT_ 7 (some 42) (bv_ 16 4351) (fun K hK => ?_)
   refine gs_ Try.func60 #[.int .i64 a0, .slice Ao60 t533.length co60, .slice Ao61 t536.length co61, .agg #[.int .i64 t539, .int .i64 t540]] ?_
   with_reducible refine (spec_BringOut.calls k a0 _ _ t533 _ _ t536 t539 t540 t541 t544 t545 t546 _ ?side1 ?side2 ?side3 ?side4 A14.out).mono ?_
   (case side1 => exact ca_ (Kd.R_reads' HO535.out).2.2)
   (case side2 => exact (Kd.R_reads' HO535.out).2.1)
   (case side3 => exact ca_ (Kd.R_reads' HO538.out).2.2)
   (case side4 => exact (Kd.R_reads' HO538.out).2.1)
   rintro e w62 ⟨v542, rfl, ho0, hb⟩
   refine ⟨_, rfl, ?_⟩
   have HO543 := Aside0.mk (Kd.R_lower ho0 (below_size (bw_ HB).out))
   replace HO535 := rb_ HO535 hb
   replace HO538 := rb_ HO538 hb
   replace BK530 := bb_ BK530 hb
   replace BK547 := bb_ BK547 hb
   replace HB := bt_ HB hb
   try clear hb
   (try clear ho0)
   refine hK.out _ _ ⟨cz_ BK530 0, cz_ BK530 1⟩ (fun hHeld => ?_)
   clear hK K
   refine nm_ (some 42) ?_
   refine px_ HT_ 8 34 4607 ?_
   refine px_ HT_ 9 43 5119 ?_
   refine px_ HT_ 10 44 6143 ?_
   refine px_ HT_ 11 45 8191 ?_
   exact norm_ (by first | (simp only [putAll, Act.put, lstS, lstZ, lstC]; done) | (simp only [putAll, Act.put, lstS, lstZ, lstC]; rfl)) (hJ2_4_6_7_12 (.slice Ao60 t533.length co60, .slice Ao61 t536.length co61, v542, gb547) _ ⟨hHeld, (ra_ HO535.out), (ra_ HO538.out), (ra_ HO543.out), (bl_ BK530).out, (bl_ BK547).out, GW547.out, GW547.out, NB530_547.out, NB547_530.out, (bw_ HB).out⟩)
  skip
  rintro ⟨v534, v537, v542⟩ w61 ⟨hS_, h0_, h1_, h2_, h3_, h4_⟩
  clear BK530 HB
  have HO535 := Aside0.mk h0_
  have HO538 := Aside0.mk h1_
  have HO543 := Aside0.mk h2_
  have BK530 := Aside0.mk h3_
  have HB := Aside0.mk h4_
  clear h0_ h1_ h2_ h3_ h4_
  have hHeld : w61.cell? ⟨gb530, 0, none⟩ = some (.int .i64 a3_0) ∧ w61.cell? ⟨gb530, 1, none⟩ = some (.int .i64 a3_1) := hS_
  refine norm_ (a' := ?_) ?_ ?_
  rotate_left
  ·simp only [putAll, Act.put, lstS, lstZ, lstC]
   rfl
  refine on_ HT_ 12 (some 11) (bv_ 16 8191) (fun K hK => ?_)
  refine bz_ 11 #[.int .i64 0, .int .i64 0] 74 ?_
  intro gb547 hg w62 BK547 hb
  have GW547 := bs_ HB hg
  have NB530_547 := bm_ BK530 hg
  have NB547_530 := bn_ BK530 hg
  replace HO535 := rb_ HO535 hb
  replace HO538 := rb_ HO538 hb
  replace HO543 := rb_ HO543 hb
  replace BK530 := bb_ BK530 hb
  replace HB := bt_ HB hb
  clear hb hg
  refine hK.out _ _ ⟨cz_ BK530 0, cz_ BK530 1⟩ (fun hHeld => ?_)
  clear hK K
  refine nm_ (some 11) ?_
  exact norm_ (by first | (simp only [putAll, Act.put, lstS, lstZ, lstC]; done) | (simp only [putAll, Act.put, lstS, lstZ, lstC]; rfl)) (hJ2_4_6_7_12 (v534, v537, v542, gb547) _ ⟨hHeld, (ra_ HO535.out), (ra_ HO538.out), (ra_ HO543.out), (bl_ BK530).out, (bl_ BK547).out, GW547.out, GW547.out, NB530_547.out, NB547_530.out, (bw_ HB).out⟩)
 rintro ⟨v534, v537, v542, gb547⟩ w62 ⟨hS_, h0_, h1_, h2_, h3_, h4_, h5_, h6_, h7_, h8_, h9_⟩
 clear BK530 HB
 have HO535 := Aside0.mk h0_
 have HO538 := Aside0.mk h1_
 have HO543 := Aside0.mk h2_
 have BK530 := Aside0.mk h3_
 have BK547 := Aside0.mk h4_
 have GW547 := Aside0.mk h5_
 have GW547 := Aside0.mk h6_
 have NB530_547 := Aside0.mk h7_
 have NB547_530 := Aside0.mk h8_
 have HB := Aside0.mk h9_
 clear h0_ h1_ h2_ h3_ h4_ h5_ h6_ h7_ h8_ h9_
 have hHeld : w62.cell? ⟨gb530, 0, none⟩ = some (.int .i64 a3_0) ∧ w62.cell? ⟨gb530, 1, none⟩ = some (.int .i64 a3_1) := hS_
 refine norm_ (a' := ?_) ?_ ?_
 rotate_left
 ·simp only [putAll, Act.put, lstS, lstZ, lstC]
  rfl
 refine px_ HT_ 13 10 16383 ?_
 refine on_ HT_ 14 none (bv_ 16 32767) (fun K hK => ?_)
 have hs63 : w62.cell? ⟨gb547, 0, none⟩ = some (.int .i64 0) := (blk_cell BK547.out 0).trans rfl
 have hfs63 := blk_frozen BK547.out 0
 have hns63_0 := NB530_547.out
 have hms63_0 := NB547_530.out
 have hs64 : w62.cell? ⟨gb547, 1, none⟩ = some (.int .i64 0) := (blk_cell BK547.out 1).trans rfl
 have hfs64 := blk_frozen BK547.out 1
 have hns64_0 := NB530_547.out
 have hms64_0 := NB547_530.out
 refine skip_ (w1 := ?_) (by rfl) rfl ?_ ?_
 rotate_left
 ·go_simp
  rfl
 refine hK.out _ _ ⟨(cg_ NB530_547 ((cg_ NB530_547 (hHeld.1)))), (cg_ NB530_547 ((cg_ NB530_547 (hHeld.2))))⟩ (fun hHeld => ?_)
 clear hK K
 refine px_ HT_ 15 12 65535 ?_
 refine done_ (done_of HT_.out (by kernel_rfl)) ?_
 try go_wp2_with (first | ((refine gc_ 61 ?_); refine ge_ 47 Try.func61 #[.slice A1 l1.length c1] ?_; (with_reducible refine (laws_toMatrixS.calls k _ _ l1 t548 _ ?side1 ?side2 A15.out).mono ?_); (case side1 => exact Kd.C_below HR1.out (bw_ HB).out); (case side2 => exact HC1.out); rintro e w65 ⟨v549, rfl, ho0, hb⟩; refine ⟨_, rfl, ?_⟩; have HO550 := Aside0.mk (Kd.R_lower (Kd.R_new' ho0 (Kd.R_lt (ra_ (rs2_ HO535.out BK547.out)))) (below_size (bw_ HB).out)); replace HO535 := Aside0.mk (Kd.R_elder' (ra_ (rs2_ HO535.out BK547.out)) (Kd.R_base ho0) hb); replace HO538 := Aside0.mk (Kd.R_below (ra_ (rs2_ HO538.out BK547.out)) hb); replace HO543 := Aside0.mk (Kd.R_below (ra_ (rs2_ HO543.out BK547.out)) hb); replace BK530 := fb_ BK530 NB530_547 hb; replace BK547 := Aside0.mk (blk_below (g := gb547) (o := .cells #[.int .i64 t544, .int .i64 t545] 74 (0, 0)) (bp_ BK547).out hb); replace HB := bt_ HB hb; (try clear hb); (try clear ho0)) | ((refine gc_ 62 ?_); refine ge_ 49 Try.func62 #[.slice A2 l2.length c2] ?_; (with_reducible refine (laws_toSideS.calls k _ _ l2 t551 _ ?side1 ?side2 A16.out).mono ?_); (case side1 => exact ca_ (Kd.C_below HR2.out HB.out)); (case side2 => exact HC2.out); rintro e w66 ⟨v552, rfl, ho0, hb⟩; refine ⟨_, rfl, ?_⟩; have HO553 := Aside0.mk (Kd.R_lower (Kd.R_new' ho0 (Kd.R_lt (ra_ HO538.out))) (below_size (bw_ HB).out)); replace HO535 := rb_ HO535 hb; replace HO538 := Aside0.mk (Kd.R_elder' (ra_ HO538.out) (Kd.R_base ho0) hb); replace HO543 := rb_ HO543 hb; replace HO550 := rb_ HO550 hb; replace BK530 := bb_ BK530 hb; replace BK547 := bb_ BK547 hb; replace HB := bt_ HB hb; (try clear hb); (try clear ho0); have hnb67 := NB530_547.out; have hnc67 := NB547_530.out; obtain ⟨hcz68_0, hcz68_1, hfz68_0, hfz68_1⟩ := ch2_ BK530) | ((refine gc_ 63 ?_); refine ge_ 55 Try.func63 #[.agg #[.int .i64 a3_0, .int .i64 a3_1]] ?_; (with_reducible refine (laws_toEnd.calls a3_0 a3_1 t554 t555 _ A17.out).mono ?_); rintro e w69 ⟨rfl, hb⟩; refine ⟨_, rfl, ?_⟩; replace HO535 := rb_ HO535 hb; replace HO538 := rb_ HO538 hb; replace HO543 := rb_ HO543 hb; replace HO550 := rb_ HO550 hb; replace HO553 := rb_ HO553 hb; replace BK530 := bb_ BK530 hb; replace BK547 := bb_ BK547 hb; replace HB := bt_ HB hb; (try clear hb); obtain ⟨Ao70, co70, eo70⟩ := Kd.R_slice HO550.out; subst eo70; obtain ⟨Ao71, co71, eo71⟩ := Kd.R_slice HO553.out; subst eo71) | ((refine gc_ 64 ?_); refine ge_ 56 Try.func64 #[.int .i64 a0, .slice Ao70 t548.length co70, .slice Ao71 t551.length co71, .agg #[.int .i64 t554, .int .i64 t555]] ?_; (with_reducible refine (impl_BringOut.calls k a0 _ _ t548 _ _ t551 t554 t555 t556 t559 t560 t561 _ ?side1 ?side2 ?side3 ?side4 A18.out).mono ?_); (case side1 => exact ca_ (Kd.R_reads' HO550.out).2.2); (case side2 => exact (Kd.R_reads' HO550.out).2.1); (case side3 => exact ca_ (Kd.R_reads' HO553.out).2.2); (case side4 => exact (Kd.R_reads' HO553.out).2.1); rintro e w72 ⟨v557, rfl, ho0, hb⟩; refine ⟨_, rfl, ?_⟩; have HO558 := Aside0.mk (Kd.R_lower (Kd.R_new' ho0 (Kd.R_lt (ra_ HO543.out))) (below_size (bw_ HB).out)); replace HO535 := rb_ HO535 hb; replace HO538 := rb_ HO538 hb; replace HO543 := Aside0.mk (Kd.R_elder' (ra_ HO543.out) (Kd.R_base ho0) hb); replace HO550 := rb_ HO550 hb; replace HO553 := rb_ HO553 hb; replace BK530 := bb_ BK530 hb; replace BK547 := bb_ BK547 hb; replace HB := bt_ HB hb; (try clear hb); (try clear ho0)) | ((refine gd_ 16 ?_); refine bx_ 16 #[.int .i64 0, .int .i64 0] 74 ?_; intro gb562 hg w73 BK562 hb; have GW562 := bs_ HB hg; have NB530_562 := bm_ BK530 hg; have NB562_530 := bn_ BK530 hg; have NB547_562 := bm_ BK547 hg; have NB562_547 := bn_ BK547 hg; replace HO535 := rb_ HO535 hb; replace HO538 := rb_ HO538 hb; replace HO543 := rb_ HO543 hb; replace HO550 := rb_ HO550 hb; replace HO553 := rb_ HO553 hb; replace HO558 := rb_ HO558 hb; replace BK530 := bb_ BK530 hb; replace BK547 := bb_ BK547 hb; replace HB := bt_ HB hb; clear hb hg; have hnb74 := NB562_530.out; have hnc74 := NB530_562.out; have hnb75 := NB562_547.out; have hnc75 := NB547_562.out; obtain ⟨hcz76_0, hcz76_1, hfz76_0, hfz76_1⟩ := ch2_ BK562; obtain ⟨Ao77, co77, eo77⟩ := Kd.R_slice HO558.out; subst eo77; obtain ⟨Ao78, co78, eo78⟩ := Kd.R_slice HO543.out; subst eo78) | ((refine gc_ 65 ?_); refine ge_ 62 Try.func65 #[.slice Ao77 t556.length co77, .slice Ao78 t541.length co78] ?_; (with_reducible refine (laws_eqInt64S.calls k _ _ t556 _ _ t541 true _ ?side1 ?side2 ?side3 ?side4 A19.out).mono ?_); (case side1 => refine (Kd.R_reads' (e := 2) (base := w.heap.size) (ok := fun k_ => (True ∧ some k_ ≠ (.slice Ao78 t541.length co78 : Value).ownBlock)) (n := t556.length) (c := co77) ?_).2.2; exact (ra_ (rs2_ HO558.out BK562.out))); (case side2 => exact (Kd.R_reads' HO558.out).2.1); (case side3 => refine (Kd.R_reads' (e := 2) (base := w.heap.size) (ok := fun k_ => (True ∧ some k_ ≠ (.slice Ao77 t556.length co77 : Value).ownBlock)) (n := t541.length) (c := co78) ?_).2.2; exact (ra_ (rs2_ HO543.out BK562.out))); (case side4 => exact (Kd.R_reads' HO543.out).2.1); rintro e w' ⟨rfl, ⟨nd, rfl⟩⟩; refine ⟨_, rfl, ?_⟩; obtain ⟨hcz79_0, hcz79_1, hfz79_0, hfz79_1⟩ := ch2_ BK547) | (go_at_call 66; (with_reducible refine (laws_eqEnd.calls t559 t560 t544 t545 true _ A21.out).mono ?_); rintro e w80 ⟨rfl, hb⟩; replace HO535 := Aside0.mk (Kd.R_below (ra_ (rs2_ HO535.out BK562.out)) hb); replace HO538 := Aside0.mk (Kd.R_below (ra_ (rs2_ HO538.out BK562.out)) hb); replace HO543 := Aside0.mk (Kd.R_below (ra_ (rs2_ HO543.out BK562.out)) hb); replace HO550 := Aside0.mk (Kd.R_below (ra_ (rs2_ HO550.out BK562.out)) hb); replace HO553 := Aside0.mk (Kd.R_below (ra_ (rs2_ HO553.out BK562.out)) hb); replace HO558 := Aside0.mk (Kd.R_below (ra_ (rs2_ HO558.out BK562.out)) hb); replace BK530 := fb_ BK530 NB530_562 hb; replace BK547 := fb_ BK547 NB547_562 hb; replace BK562 := Aside0.mk (blk_below (g := gb562) (o := .cells #[.int .i64 t559, .int .i64 t560] 74 (0, 0)) (bp_ BK562).out hb); replace HB := bt_ HB hb; (try clear hb)) | ((refine gc_ 61 ?_); refine ge_ 77 Try.func61 #[.slice A1 l1.length c1] ?_; (with_reducible refine (laws_toMatrixS.calls k _ _ l1 t565 _ ?side1 ?side2 A24.out).mono ?_); (case side1 => exact ca_ (Kd.C_below HR1.out HB.out)); (case side2 => exact HC1.out); rintro e w81 ⟨v566, rfl, ho0, hb⟩; refine ⟨_, rfl, ?_⟩; have HO567 := Aside0.mk (Kd.R_lower (Kd.R_new' (Kd.R_new' ho0 (Kd.R_lt (ra_ HO535.out))) (Kd.R_lt (ra_ HO550.out))) (below_size (bw_ HB).out)); replace HO535 := Aside0.mk (Kd.R_elder' (ra_ HO535.out) (Kd.R_base ho0) hb); replace HO538 := rb_ HO538 hb; replace HO543 := rb_ HO543 hb; replace HO550 := Aside0.mk (Kd.R_elder' (ra_ HO550.out) (Kd.R_base ho0) hb); replace HO553 := rb_ HO553 hb; replace HO558 := rb_ HO558 hb; replace BK530 := bb_ BK530 hb; replace BK547 := bb_ BK547 hb; replace BK562 := bb_ BK562 hb; replace HB := bt_ HB hb; (try clear hb); (try clear ho0); obtain ⟨Ao82, co82, eo82⟩ := Kd.R_slice HO567.out; subst eo82) | ((refine gc_ 67 ?_); refine ge_ 78 Try.func67 #[.slice Ao70 t548.length co70, .slice Ao82 t565.length co82] ?_; (with_reducible refine (laws_eqMatrixS.calls k _ _ t548 _ _ t565 true _ ?side1 ?side2 ?side3 ?side4 A25.out).mono ?_); (case side1 => exact ca_ (Kd.R_reads' HO550.out).2.2); (case side2 => exact (Kd.R_reads' HO550.out).2.1); (case side3 => exact ca_ (Kd.R_reads' HO567.out).2.2); (case side4 => exact (Kd.R_reads' HO567.out).2.1); rintro e w83 ⟨rfl, hb⟩; refine ⟨_, rfl, ?_⟩; replace HO535 := rb_ HO535 hb; replace HO538 := rb_ HO538 hb; replace HO543 := rb_ HO543 hb; replace HO550 := rb_ HO550 hb; replace HO553 := rb_ HO553 hb; replace HO558 := rb_ HO558 hb; replace HO567 := rb_ HO567 hb; replace BK530 := bb_ BK530 hb; replace BK547 := bb_ BK547 hb; replace BK562 := bb_ BK562 hb; replace HB := bt_ HB hb; (try clear hb)) | ((refine gc_ 62 ?_); refine ge_ 82 Try.func62 #[.slice A2 l2.length c2] ?_; (with_reducible refine (laws_toSideS.calls k _ _ l2 t569 _ ?side1 ?side2 A27.out).mono ?_); (case side1 => exact ca_ (Kd.C_below HR2.out HB.out)); (case side2 => exact HC2.out); rintro e w84 ⟨v570, rfl, ho0, hb⟩; refine ⟨_, rfl, ?_⟩; have HO571 := Aside0.mk (Kd.R_lower (Kd.R_new' (Kd.R_new' ho0 (Kd.R_lt (ra_ HO538.out))) (Kd.R_lt (ra_ HO553.out))) (below_size (bw_ HB).out)); replace HO535 := rb_ HO535 hb; replace HO538 := Aside0.mk (Kd.R_elder' (ra_ HO538.out) (Kd.R_base ho0) hb); replace HO543 := rb_ HO543 hb; replace HO550 := rb_ HO550 hb; replace HO553 := Aside0.mk (Kd.R_elder' (ra_ HO553.out) (Kd.R_base ho0) hb); replace HO558 := rb_ HO558 hb; replace HO567 := rb_ HO567 hb; replace BK530 := bb_ BK530 hb; replace BK547 := bb_ BK547 hb; replace BK562 := bb_ BK562 hb; replace HB := bt_ HB hb; (try clear hb); (try clear ho0); obtain ⟨Ao85, co85, eo85⟩ := Kd.R_slice HO571.out; subst eo85) | ((refine gc_ 68 ?_); refine ge_ 83 Try.func68 #[.slice Ao71 t551.length co71, .slice Ao85 t569.length co85] ?_; (with_reducible refine (laws_eqSideS.calls k _ _ t551 _ _ t569 true _ ?side1 ?side2 ?side3 ?side4 A28.out).mono ?_); (case side1 => exact ca_ (Kd.R_reads' HO553.out).2.2); (case side2 => exact (Kd.R_reads' HO553.out).2.1); (case side3 => exact ca_ (Kd.R_reads' HO571.out).2.2); (case side4 => exact (Kd.R_reads' HO571.out).2.1); rintro e w86 ⟨rfl, hb⟩; refine ⟨_, rfl, ?_⟩; replace HO535 := rb_ HO535 hb; replace HO538 := rb_ HO538 hb; replace HO543 := rb_ HO543 hb; replace HO550 := rb_ HO550 hb; replace HO553 := rb_ HO553 hb; replace HO558 := rb_ HO558 hb; replace HO567 := rb_ HO567 hb; replace HO571 := rb_ HO571 hb; replace BK530 := bb_ BK530 hb; replace BK547 := bb_ BK547 hb; replace BK562 := bb_ BK562 hb; replace HB := bt_ HB hb; (try clear hb)) | ((refine gc_ 69 ?_); refine ge_ 87 Try.func69 #[.slice Ao70 t548.length co70, .int .i64 1] ?_; (with_reducible refine (laws_markMatrixS.calls k _ _ t548 1 t573 _ ?side1 ?side2 A30.out).mono ?_); (case side1 => exact ca_ (Kd.R_reads' HO550.out).2.2); (case side2 => exact (Kd.R_reads' HO550.out).2.1); rintro e w' ⟨rfl, ⟨nd, rfl⟩⟩; refine ⟨_, rfl, ?_⟩; (try (rw [drewN_self w86]; generalize hq_ : World.drewN w86 _ = w86; have n0_ : Aside0 (Kd.R k46 46 w86 w.heap.size (fun k_ => some k_ ≠ (.slice Ao70 t548.length co70 : Value).ownBlock ∧ some k_ ≠ (.slice Ao82 t565.length co82 : Value).ownBlock) v534 t533) := ⟨by rw [← hq_]; exact (by (with_reducible repeat (first | apply Kd.R_alloc | apply Kd.R_drewN | apply Kd.R_drew)); exact Kd.R_mono HO535.out (fun _ hk => ⟨hk.1.2, hk.2⟩))⟩; have n1_ : Aside0 (Kd.R k150 150 w86 w.heap.size (fun k_ => some k_ ≠ (.slice Ao71 t551.length co71 : Value).ownBlock ∧ some k_ ≠ (.slice Ao85 t569.length co85 : Value).ownBlock) v537 t536) := ⟨by rw [← hq_]; exact (by (with_reducible repeat (first | apply Kd.R_alloc | apply Kd.R_drewN | apply Kd.R_drew)); exact Kd.R_mono HO538.out (fun _ hk => ⟨hk.1.2, hk.2⟩))⟩; have n2_ : Aside0 (Kd.R (Kd.int .i64) 2 w86 w.heap.size (fun k_ => some k_ ≠ (.slice Ao77 t556.length co77 : Value).ownBlock) (.slice Ao78 t541.length co78) t541) := ⟨by rw [← hq_]; exact (by (with_reducible repeat (first | apply Kd.R_alloc | apply Kd.R_drewN | apply Kd.R_drew)); exact Kd.R_mono HO543.out (fun _ hk => hk.2))⟩; have n3_ : Aside0 (Kd.R k46 46 w86 w.heap.size (fun k_ => some k_ ≠ (v534 : Value).ownBlock ∧ some k_ ≠ (.slice Ao82 t565.length co82 : Value).ownBlock) (.slice Ao70 t548.length co70) t548) := ⟨by rw [← hq_]; exact (by (with_reducible repeat (first | apply Kd.R_alloc | apply Kd.R_drewN | apply Kd.R_drew)); exact Kd.R_mono HO550.out (fun _ hk => ⟨hk.1.2, hk.2⟩))⟩; have n4_ : Aside0 (Kd.R k150 150 w86 w.heap.size (fun k_ => some k_ ≠ (v537 : Value).ownBlock ∧ some k_ ≠ (.slice Ao85 t569.length co85 : Value).ownBlock) (.slice Ao71 t551.length co71) t551) := ⟨by rw [← hq_]; exact (by (with_reducible repeat (first | apply Kd.R_alloc | apply Kd.R_drewN | apply Kd.R_drew)); exact Kd.R_mono HO553.out (fun _ hk => ⟨hk.1.2, hk.2⟩))⟩; have n5_ : Aside0 (Kd.R (Kd.int .i64) 2 w86 w.heap.size (fun k_ => some k_ ≠ (.slice Ao78 t541.length co78 : Value).ownBlock) (.slice Ao77 t556.length co77) t556) := ⟨by rw [← hq_]; exact (by (with_reducible repeat (first | apply Kd.R_alloc | apply Kd.R_drewN | apply Kd.R_drew)); exact Kd.R_mono HO558.out (fun _ hk => hk.2))⟩; have n6_ : Aside0 (Kd.R k46 46 w86 w.heap.size (fun k_ => some k_ ≠ (v534 : Value).ownBlock ∧ some k_ ≠ (.slice Ao70 t548.length co70 : Value).ownBlock) (.slice Ao82 t565.length co82) t565) := ⟨by rw [← hq_]; exact (by (with_reducible repeat (first | apply Kd.R_alloc | apply Kd.R_drewN | apply Kd.R_drew)); exact Kd.R_mono HO567.out (fun _ hk => ⟨hk.1.2, hk.2⟩))⟩; have n7_ : Aside0 (Kd.R k150 150 w86 w.heap.size (fun k_ => some k_ ≠ (v537 : Value).ownBlock ∧ some k_ ≠ (.slice Ao71 t551.length co71 : Value).ownBlock) (.slice Ao85 t569.length co85) t569) := ⟨by rw [← hq_]; exact (by (with_reducible repeat (first | apply Kd.R_alloc | apply Kd.R_drewN | apply Kd.R_drew)); exact Kd.R_mono HO571.out (fun _ hk => ⟨hk.1.2, hk.2⟩))⟩; have n8_ := bq_ BK530 hq_; have n9_ := bq_ BK547 hq_; have n10_ := bq_ BK562 hq_; have n11_ := hq_' HB hq_; clear HO535 HO538 HO543 HO550 HO553 HO558 HO567 HO571 BK530 BK547 BK562 HB hq_; have HO535 := n0_; have HO538 := n1_; have HO543 := n2_; have HO550 := n3_; have HO553 := n4_; have HO558 := n5_; have HO567 := n6_; have HO571 := n7_; have BK530 := n8_; have BK547 := n9_; have BK562 := n10_; have HB := n11_; clear n0_ n1_ n2_ n3_ n4_ n5_ n6_ n7_ n8_ n9_ n10_ n11_))) | ((refine gc_ 70 ?_); refine ge_ 90 Try.func70 #[.slice Ao71 t551.length co71, .int .i64 t573] ?_; (with_reducible refine (laws_markSideS.calls k (fun k_ => some k_ = (.slice Ao71 t551.length co71 : Value).ownBlock) (.slice Ao71 t551.length co71) t551 t573 t574 t575 w _ ?side1 ?side2 A31.out).mono ?_); (case side1 => repeat (first | (with_reducible first | exact HB.out | apply below_alloc | apply pw_below_drewN | apply below_drew1 | refine below_set ?_ GW530.out | refine below_set ?_ GW547.out | refine below_set ?_ GW562.out) | exact HB.out)); (case side2 => exact Kd.R_tight rfl HO553.out); rintro e w87 ⟨rfl, hy0, hb, hkp⟩; refine ⟨_, rfl, ?_⟩; replace BK530 := Aside0.mk (blk_kept (bl_ BK530).out hkp (fun hs_ => (fun e_ => (Kd.R_ne HO553.out BK530.out (by decide)) e_) hs_)); replace HO535 := Aside0.mk (Kd.R_mono (ok' := fun k_ => some k_ ≠ (.slice Ao70 t548.length co70 : Value).ownBlock ∧ some k_ ≠ (.slice Ao82 t565.length co82 : Value).ownBlock) (Kd.R_keptB ((Kd.R_apart' HO535.out (Kd.R_typed HO553.out) (by decide))) hkp (fun k_ hk_ hs_ => (hk_.2) hs_)) (fun k_ hk_ => ⟨hk_.1.1.1, hk_.1.1.2⟩)); replace HO538 := Aside0.mk (Kd.R_mono (ok' := fun k_ => some k_ ≠ (.slice Ao71 t551.length co71 : Value).ownBlock ∧ some k_ ≠ (.slice Ao85 t569.length co85 : Value).ownBlock) (Kd.R_keptB (HO538.out) hkp (fun k_ hk_ hs_ => (hk_.1) hs_)) (fun k_ hk_ => ⟨hk_.1.1, hk_.1.2⟩)); replace HO543 := Aside0.mk (Kd.R_mono (ok' := fun k_ => some k_ ≠ (.slice Ao77 t556.length co77 : Value).ownBlock) (Kd.R_keptB ((Kd.R_apart' HO543.out (Kd.R_typed HO553.out) (by decide))) hkp (fun k_ hk_ hs_ => (hk_.2) hs_)) (fun k_ hk_ => hk_.1.1)); replace BK547 := Aside0.mk (blk_kept (bl_ BK547).out hkp (fun hs_ => (fun e_ => (Kd.R_ne HO553.out BK547.out (by decide)) e_) hs_)); replace HO550 := Aside0.mk (Kd.R_mono (ok' := fun k_ => some k_ ≠ (v534 : Value).ownBlock ∧ some k_ ≠ (.slice Ao82 t565.length co82 : Value).ownBlock) (Kd.R_keptB ((Kd.R_apart' HO550.out (Kd.R_typed HO553.out) (by decide))) hkp (fun k_ hk_ hs_ => (hk_.2) hs_)) (fun k_ hk_ => ⟨hk_.1.1.1, hk_.1.1.2⟩)); replace HO558 := Aside0.mk (Kd.R_mono (ok' := fun k_ => some k_ ≠ (.slice Ao78 t541.length co78 : Value).ownBlock) (Kd.R_keptB ((Kd.R_apart' HO558.out (Kd.R_typed HO553.out) (by decide))) hkp (fun k_ hk_ hs_ => (hk_.2) hs_)) (fun k_ hk_ => hk_.1.1)); replace BK562 := Aside0.mk (blk_kept (bl_ BK562).out hkp (fun hs_ => (fun e_ => (Kd.R_ne HO553.out BK562.out (by decide)) e_) hs_)); replace HO567 := Aside0.mk (Kd.R_mono (ok' := fun k_ => some k_ ≠ (v534 : Value).ownBlock ∧ some k_ ≠ (.slice Ao70 t548.length co70 : Value).ownBlock) (Kd.R_keptB ((Kd.R_apart' HO567.out (Kd.R_typed HO553.out) (by decide))) hkp (fun k_ hk_ hs_ => (hk_.2) hs_)) (fun k_ hk_ => ⟨hk_.1.1.1, hk_.1.1.2⟩)); replace HO553 := Aside0.mk (Kd.R_reok rfl hy0 (fun k_ e_ => HO553.out.1 k_ e_)); replace HO571 := Aside0.mk (Kd.R_mono (ok' := fun k_ => some k_ ≠ (v537 : Value).ownBlock ∧ some k_ ≠ (.slice Ao71 t551.length co71 : Value).ownBlock) (Kd.R_keptB (HO571.out) hkp (fun k_ hk_ hs_ => (hk_.2) hs_)) (fun k_ hk_ => ⟨hk_.1.1, hk_.1.2⟩)); replace HB := Aside0.mk (hb); (try clear hb); (try clear hkp); (try clear hy0)) | (go_at_call 65; (with_reducible refine (laws_eqInt64S.calls k _ _ t556 _ _ t541 true _ ?side1 ?side2 ?side3 ?side4 A33.out).mono ?_); (case side1 => exact ca_ (Kd.R_reads' HO558.out).2.2); (case side2 => exact (Kd.R_reads' HO558.out).2.1); (case side3 => exact ca_ (Kd.R_reads' HO543.out).2.2); (case side4 => exact (Kd.R_reads' HO543.out).2.1); rintro e w' ⟨rfl, ⟨nd, rfl⟩⟩; (try (rw [drewN_self w87]; generalize hq_ : World.drewN w87 _ = w87; have n0_ : Aside0 (Kd.R k46 46 w87 w.heap.size (fun k_ => some k_ ≠ (.slice Ao70 t548.length co70 : Value).ownBlock ∧ some k_ ≠ (.slice Ao82 t565.length co82 : Value).ownBlock) v534 t533) := ⟨by rw [← hq_]; exact (ra_ HO535.out)⟩; have n1_ : Aside0 (Kd.R k150 150 w87 w.heap.size (fun k_ => some k_ ≠ (.slice Ao71 t551.length co71 : Value).ownBlock ∧ some k_ ≠ (.slice Ao85 t569.length co85 : Value).ownBlock) v537 t536) := ⟨by rw [← hq_]; exact (ra_ HO538.out)⟩; have n2_ : Aside0 (Kd.R (Kd.int .i64) 2 w87 w.heap.size (fun k_ => some k_ ≠ (.slice Ao77 t556.length co77 : Value).ownBlock) (.slice Ao78 t541.length co78) t541) := ⟨by rw [← hq_]; exact (ra_ HO543.out)⟩; have n3_ : Aside0 (Kd.R k46 46 w87 w.heap.size (fun k_ => some k_ ≠ (v534 : Value).ownBlock ∧ some k_ ≠ (.slice Ao82 t565.length co82 : Value).ownBlock) (.slice Ao70 t548.length co70) t548) := ⟨by rw [← hq_]; exact (ra_ HO550.out)⟩; have n4_ : Aside0 (Kd.R k150 150 w87 w.heap.size (fun k_ => some k_ ≠ (v537 : Value).ownBlock ∧ some k_ ≠ (.slice Ao85 t569.length co85 : Value).ownBlock) (.slice Ao71 t551.length co71) t575) := ⟨by rw [← hq_]; exact (ra_ HO553.out)⟩; have n5_ : Aside0 (Kd.R (Kd.int .i64) 2 w87 w.heap.size (fun k_ => some k_ ≠ (.slice Ao78 t541.length co78 : Value).ownBlock) (.slice Ao77 t556.length co77) t556) := ⟨by rw [← hq_]; exact (ra_ HO558.out)⟩; have n6_ : Aside0 (Kd.R k46 46 w87 w.heap.size (fun k_ => some k_ ≠ (v534 : Value).ownBlock ∧ some k_ ≠ (.slice Ao70 t548.length co70 : Value).ownBlock) (.slice Ao82 t565.length co82) t565) := ⟨by rw [← hq_]; exact (ra_ HO567.out)⟩; have n7_ : Aside0 (Kd.R k150 150 w87 w.heap.size (fun k_ => some k_ ≠ (v537 : Value).ownBlock ∧ some k_ ≠ (.slice Ao71 t551.length co71 : Value).ownBlock) (.slice Ao85 t569.length co85) t569) := ⟨by rw [← hq_]; exact (ra_ HO571.out)⟩; have n8_ := bq_ BK530 hq_; have n9_ := bq_ BK547 hq_; have n10_ := bq_ BK562 hq_; have n11_ := hq_' HB hq_; clear HO535 HO538 HO543 HO550 HO553 HO558 HO567 HO571 BK530 BK547 BK562 HB hq_; have HO535 := n0_; have HO538 := n1_; have HO543 := n2_; have HO550 := n3_; have HO553 := n4_; have HO558 := n5_; have HO567 := n6_; have HO571 := n7_; have BK530 := n8_; have BK547 := n9_; have BK562 := n10_; have HB := n11_; clear n0_ n1_ n2_ n3_ n4_ n5_ n6_ n7_ n8_ n9_ n10_ n11_)); obtain ⟨hcz88_0, hcz88_1, hfz88_0, hfz88_1⟩ := ch2_ BK562; obtain ⟨hcz89_0, hcz89_1, hfz89_0, hfz89_1⟩ := ch2_ BK547) | (go_at_call 66; (with_reducible refine (laws_eqEnd.calls t559 t560 t544 t545 true _ A35.out).mono ?_); rintro e w90 ⟨rfl, hb⟩; replace HO535 := rb_ HO535 hb; replace HO538 := rb_ HO538 hb; replace HO543 := rb_ HO543 hb; replace HO550 := rb_ HO550 hb; replace HO553 := rb_ HO553 hb; replace HO558 := rb_ HO558 hb; replace HO567 := rb_ HO567 hb; replace HO571 := rb_ HO571 hb; replace BK530 := bb_ BK530 hb; replace BK547 := bb_ BK547 hb; replace BK562 := bb_ BK562 hb; replace HB := bt_ HB hb; (try clear hb)) | ((refine gc_ 71 ?_); refine ge_ 112 Try.func71 #[.slice Ao77 t556.length co77, .int .i64 1] ?_; (with_reducible refine (laws_markInt64S.calls k (fun k_ => some k_ = (.slice Ao77 t556.length co77 : Value).ownBlock) (.slice Ao77 t556.length co77) t556 1 t578 t579 w _ ?side1 ?side2 A37.out).mono ?_); (case side1 => repeat (first | (with_reducible first | exact HB.out | apply below_alloc | apply pw_below_drewN | apply below_drew1 | refine below_set ?_ GW530.out | refine below_set ?_ GW547.out | refine below_set ?_ GW562.out) | exact HB.out)); (case side2 => exact Kd.R_tight rfl HO558.out); rintro e w91 ⟨rfl, hy0, hb, hkp⟩; refine ⟨_, rfl, ?_⟩; replace BK530 := Aside0.mk (blk_kept (bl_ BK530).out hkp (fun hs_ => (fun e_ => (Kd.R_ne HO558.out BK530.out (by decide)) e_) hs_)); replace HO535 := Aside0.mk (Kd.R_mono (ok' := fun k_ => some k_ ≠ (.slice Ao70 t548.length co70 : Value).ownBlock ∧ some k_ ≠ (.slice Ao82 t565.length co82 : Value).ownBlock) (Kd.R_keptB ((Kd.R_apart' HO535.out (Kd.R_typed HO558.out) (by decide))) hkp (fun k_ hk_ hs_ => (hk_.2) hs_)) (fun k_ hk_ => ⟨hk_.1.1.1, hk_.1.1.2⟩)); replace HO538 := Aside0.mk (Kd.R_mono (ok' := fun k_ => some k_ ≠ (.slice Ao71 t551.length co71 : Value).ownBlock ∧ some k_ ≠ (.slice Ao85 t569.length co85 : Value).ownBlock) (Kd.R_keptB ((Kd.R_apart' HO538.out (Kd.R_typed HO558.out) (by decide))) hkp (fun k_ hk_ hs_ => (hk_.2) hs_)) (fun k_ hk_ => ⟨hk_.1.1.1, hk_.1.1.2⟩)); replace HO543 := Aside0.mk (Kd.R_mono (ok' := fun k_ => some k_ ≠ (.slice Ao77 t556.length co77 : Value).ownBlock) (Kd.R_keptB (HO543.out) hkp (fun k_ hk_ hs_ => (hk_) hs_)) (fun k_ hk_ => hk_.1)); replace BK547 := Aside0.mk (blk_kept (bl_ BK547).out hkp (fun hs_ => (fun e_ => (Kd.R_ne HO558.out BK547.out (by decide)) e_) hs_)); replace HO550 := Aside0.mk (Kd.R_mono (ok' := fun k_ => some k_ ≠ (v534 : Value).ownBlock ∧ some k_ ≠ (.slice Ao82 t565.length co82 : Value).ownBlock) (Kd.R_keptB ((Kd.R_apart' HO550.out (Kd.R_typed HO558.out) (by decide))) hkp (fun k_ hk_ hs_ => (hk_.2) hs_)) (fun k_ hk_ => ⟨hk_.1.1.1, hk_.1.1.2⟩)); replace HO553 := Aside0.mk (Kd.R_mono (ok' := fun k_ => some k_ ≠ (v537 : Value).ownBlock ∧ some k_ ≠ (.slice Ao85 t569.length co85 : Value).ownBlock) (Kd.R_keptB ((Kd.R_apart' HO553.out (Kd.R_typed HO558.out) (by decide))) hkp (fun k_ hk_ hs_ => (hk_.2) hs_)) (fun k_ hk_ => ⟨hk_.1.1.1, hk_.1.1.2⟩)); replace BK562 := Aside0.mk (blk_kept (bl_ BK562).out hkp (fun hs_ => (fun e_ => (Kd.R_ne HO558.out BK562.out (by decide)) e_) hs_)); replace HO567 := Aside0.mk (Kd.R_mono (ok' := fun k_ => some k_ ≠ (v534 : Value).ownBlock ∧ some k_ ≠ (.slice Ao70 t548.length co70 : Value).ownBlock) (Kd.R_keptB ((Kd.R_apart' HO567.out (Kd.R_typed HO558.out) (by decide))) hkp (fun k_ hk_ hs_ => (hk_.2) hs_)) (fun k_ hk_ => ⟨hk_.1.1.1, hk_.1.1.2⟩)); replace HO571 := Aside0.mk (Kd.R_mono (ok' := fun k_ => some k_ ≠ (v537 : Value).ownBlock ∧ some k_ ≠ (.slice Ao71 t551.length co71 : Value).ownBlock) (Kd.R_keptB ((Kd.R_apart' HO571.out (Kd.R_typed HO558.out) (by decide))) hkp (fun k_ hk_ hs_ => (hk_.2) hs_)) (fun k_ hk_ => ⟨hk_.1.1.1, hk_.1.1.2⟩)); replace HO558 := Aside0.mk (Kd.R_reok rfl hy0 (fun k_ e_ => HO558.out.1 k_ e_)); replace HB := Aside0.mk (hb); (try clear hb); (try clear hkp); (try clear hy0)) | ((refine gc_ 72 ?_); refine goesL_ (some 115) rfl rfl Try.func72 (by kernel_rfl) rfl #[.slice Ao77 t579.length co77, .int .i64 1] rfl (by (try simp only [List.map_toArray, List.map_cons, List.map_nil]); first | done | (rw [show t579.length = t556.length from (Kd.R_reads' HO558.out).1.symm] <;> rfl) | rfl | (simp only [List.length_drop, List.length_take]; rfl)) ?_; (with_reducible refine (laws_heldInt64S.calls k _ _ t579 1 t580 _ ?side1 ?side2 A38.out).mono ?_); (case side1 => exact ca_ (Kd.R_reads' HO558.out).2.2); (case side2 => rw [show t579.length = t556.length from (Kd.R_reads' HO558.out).1.symm]; exact (Kd.R_reads' HO558.out).2.1); rintro e w' ⟨rfl, ⟨nd, rfl⟩⟩; refine ⟨_, rfl, ?_⟩; (try (rw [drewN_self w91]; generalize hq_ : World.drewN w91 _ = w91; have n0_ : Aside0 (Kd.R k46 46 w91 w.heap.size (fun k_ => some k_ ≠ (.slice Ao70 t548.length co70 : Value).ownBlock ∧ some k_ ≠ (.slice Ao82 t565.length co82 : Value).ownBlock) v534 t533) := ⟨by rw [← hq_]; exact (ra_ HO535.out)⟩; have n1_ : Aside0 (Kd.R k150 150 w91 w.heap.size (fun k_ => some k_ ≠ (.slice Ao71 t551.length co71 : Value).ownBlock ∧ some k_ ≠ (.slice Ao85 t569.length co85 : Value).ownBlock) v537 t536) := ⟨by rw [← hq_]; exact (ra_ HO538.out)⟩; have n2_ : Aside0 (Kd.R (Kd.int .i64) 2 w91 w.heap.size (fun k_ => some k_ ≠ (.slice Ao77 t556.length co77 : Value).ownBlock) (.slice Ao78 t541.length co78) t541) := ⟨by rw [← hq_]; exact (ra_ HO543.out)⟩; have n3_ : Aside0 (Kd.R k46 46 w91 w.heap.size (fun k_ => some k_ ≠ (v534 : Value).ownBlock ∧ some k_ ≠ (.slice Ao82 t565.length co82 : Value).ownBlock) (.slice Ao70 t548.length co70) t548) := ⟨by rw [← hq_]; exact (ra_ HO550.out)⟩; have n4_ : Aside0 (Kd.R k150 150 w91 w.heap.size (fun k_ => some k_ ≠ (v537 : Value).ownBlock ∧ some k_ ≠ (.slice Ao85 t569.length co85 : Value).ownBlock) (.slice Ao71 t551.length co71) t575) := ⟨by rw [← hq_]; exact (ra_ HO553.out)⟩; have n5_ : Aside0 (Kd.R (Kd.int .i64) 2 w91 w.heap.size (fun k_ => some k_ ≠ (.slice Ao78 t541.length co78 : Value).ownBlock) (.slice Ao77 t556.length co77) t579) := ⟨by rw [← hq_]; exact (ra_ HO558.out)⟩; have n6_ : Aside0 (Kd.R k46 46 w91 w.heap.size (fun k_ => some k_ ≠ (v534 : Value).ownBlock ∧ some k_ ≠ (.slice Ao70 t548.length co70 : Value).ownBlock) (.slice Ao82 t565.length co82) t565) := ⟨by rw [← hq_]; exact (ra_ HO567.out)⟩; have n7_ : Aside0 (Kd.R k150 150 w91 w.heap.size (fun k_ => some k_ ≠ (v537 : Value).ownBlock ∧ some k_ ≠ (.slice Ao71 t551.length co71 : Value).ownBlock) (.slice Ao85 t569.length co85) t569) := ⟨by rw [← hq_]; exact (ra_ HO571.out)⟩; have n8_ := bq_ BK530 hq_; have n9_ := bq_ BK547 hq_; have n10_ := bq_ BK562 hq_; have n11_ := hq_' HB hq_; clear HO535 HO538 HO543 HO550 HO553 HO558 HO567 HO571 BK530 BK547 BK562 HB hq_; have HO535 := n0_; have HO538 := n1_; have HO543 := n2_; have HO550 := n3_; have HO553 := n4_; have HO558 := n5_; have HO567 := n6_; have HO571 := n7_; have BK530 := n8_; have BK547 := n9_; have BK562 := n10_; have HB := n11_; clear n0_ n1_ n2_ n3_ n4_ n5_ n6_ n7_ n8_ n9_ n10_ n11_))))
 replace HO535 := Aside0.mk (Kd.R_drew HO535.out)
 replace HO538 := Aside0.mk (Kd.R_drew HO538.out)
 replace HO543 := Aside0.mk (Kd.R_drew HO543.out)
 replace HO550 := Aside0.mk (Kd.R_drew HO550.out)
 replace HO553 := Aside0.mk (Kd.R_drew HO553.out)
 replace HO558 := Aside0.mk (Kd.R_drew HO558.out)
 replace HO567 := Aside0.mk (Kd.R_drew HO567.out)
 replace HO571 := Aside0.mk (Kd.R_drew HO571.out)
 replace BK530 := bd_ BK530
 replace BK547 := bd_ BK547
 replace BK562 := bd_ BK562
 replace HB := be_ HB
 refine start_ (n := 16) (S := fun w' => w'.cell? ⟨gb530, 0, none⟩ = some (.int .i64 a3_0) ∧ w'.cell? ⟨gb530, 1, none⟩ = some (.int .i64 a3_1)) (ds := []) (bv_ 16 0) (by kernel_rfl) rfl rfl ⟨cz_ BK530 0, cz_ BK530 1⟩ (fun hHeld => ?_); refine with_tabW laws_FnExactBringOut.tab31 laws_FnExactBringOut.bits31 (fun HT_ HW_ => ?_)
 generalize w91.drew = w92 at HO535 HO538 HO543 HO550 HO553 HO558 HO567 HO571 BK530 BK547 BK562 HB hHeld ⊢
 refine px_ HT_ 0 122 1 ?_
 refine px_ HT_ 1 123 3 ?_
 refine px_ HT_ 3 125 11 ?_
 refine ta_ HT_ HW_ 5 (some 127) (bv_ 16 43) hHeld ?_ (hy := by rintro w' ⟨s0, s1⟩; go_simp; with_reducible rfl)
 refine join_ (σ := Value × Value × Value × Nat) 3 (bv_ 16 8191) (fun s_ => [(124, s_.1), (126, s_.2.1), (128, .agg #[.int .i64 t587, .int .i64 t588]), (129, .tuple #[s_.2.2.1, .agg #[.int .i64 t592, .int .i64 t593], .int .i64 t594]), (22, .pointer (some ⟨s_.2.2.2, 0, none⟩)), (121, .tuple #[s_.2.2.1, .agg #[.int .i64 t592, .int .i64 t593], .int .i64 t594]), (130, s_.2.2.1), (131, .agg #[.int .i64 t592, .int .i64 t593]), (132, .int .i64 t594)]) (fun s_ w' => (w'.cell? ⟨gb530, 0, none⟩ = some (.int .i64 a3_0) ∧ w'.cell? ⟨gb530, 1, none⟩ = some (.int .i64 a3_1)) ∧ (Kd.R k46 46 w' w.heap.size (fun k_ => some k_ ≠ (.slice Ao70 t548.length co70 : Value).ownBlock ∧ some k_ ≠ (.slice Ao82 t565.length co82 : Value).ownBlock ∧ some k_ ≠ (s_.1 : Value).ownBlock) v534 t533) ∧ (Kd.R k150 150 w' w.heap.size (fun k_ => some k_ ≠ (.slice Ao71 t551.length co71 : Value).ownBlock ∧ some k_ ≠ (.slice Ao85 t569.length co85 : Value).ownBlock ∧ some k_ ≠ (s_.2.1 : Value).ownBlock) v537 t536) ∧ (Kd.R (Kd.int .i64) 2 w' w.heap.size (fun k_ => some k_ ≠ (.slice Ao77 t556.length co77 : Value).ownBlock ∧ some k_ ≠ (s_.2.2.1 : Value).ownBlock) (.slice Ao78 t541.length co78) t541) ∧ (Kd.R k46 46 w' w.heap.size (fun k_ => some k_ ≠ (v534 : Value).ownBlock ∧ some k_ ≠ (.slice Ao82 t565.length co82 : Value).ownBlock ∧ some k_ ≠ (s_.1 : Value).ownBlock) (.slice Ao70 t548.length co70) t548) ∧ (Kd.R k150 150 w' w.heap.size (fun k_ => some k_ ≠ (v537 : Value).ownBlock ∧ some k_ ≠ (.slice Ao85 t569.length co85 : Value).ownBlock ∧ some k_ ≠ (s_.2.1 : Value).ownBlock) (.slice Ao71 t551.length co71) t575) ∧ (Kd.R (Kd.int .i64) 2 w' w.heap.size (fun k_ => some k_ ≠ (.slice Ao78 t541.length co78 : Value).ownBlock ∧ some k_ ≠ (s_.2.2.1 : Value).ownBlock) (.slice Ao77 t556.length co77) t579) ∧ (Kd.R k46 46 w' w.heap.size (fun k_ => some k_ ≠ (v534 : Value).ownBlock ∧ some k_ ≠ (.slice Ao70 t548.length co70 : Value).ownBlock ∧ some k_ ≠ (s_.1 : Value).ownBlock) (.slice Ao82 t565.length co82) t565) ∧ (Kd.R k150 150 w' w.heap.size (fun k_ => some k_ ≠ (v537 : Value).ownBlock ∧ some k_ ≠ (.slice Ao71 t551.length co71 : Value).ownBlock ∧ some k_ ≠ (s_.2.1 : Value).ownBlock) (.slice Ao85 t569.length co85) t569) ∧ (Kd.R k46 46 w' w.heap.size (fun k_ => some k_ ≠ (v534 : Value).ownBlock ∧ some k_ ≠ (.slice Ao70 t548.length co70 : Value).ownBlock ∧ some k_ ≠ (.slice Ao82 t565.length co82 : Value).ownBlock) s_.1 t581) ∧ (Kd.R k150 150 w' w.heap.size (fun k_ => some k_ ≠ (v537 : Value).ownBlock ∧ some k_ ≠ (.slice Ao71 t551.length co71 : Value).ownBlock ∧ some k_ ≠ (.slice Ao85 t569.length co85 : Value).ownBlock) s_.2.1 t584) ∧ (Kd.R (Kd.int .i64) 2 w' w.heap.size (fun k_ => some k_ ≠ (.slice Ao78 t541.length co78 : Value).ownBlock ∧ some k_ ≠ (.slice Ao77 t556.length co77 : Value).ownBlock) s_.2.2.1 t589) ∧ (w'.heap[gb530]? = some (.cells #[.int .i64 a3_0, .int .i64 a3_1] 71 (0, 0))) ∧ (w'.heap[gb547]? = some (.cells #[.int .i64 t544, .int .i64 t545] 74 (0, 0))) ∧ (w'.heap[gb562]? = some (.cells #[.int .i64 t559, .int .i64 t560] 74 (0, 0))) ∧ (w'.heap[s_.2.2.2]? = some (.cells #[.int .i64 0, .int .i64 0] 74 (0, 0))) ∧ (w.heap.size ≤ s_.2.2.2) ∧ (w.heap.size ≤ s_.2.2.2) ∧ (gb530 ≠ s_.2.2.2) ∧ (s_.2.2.2 ≠ gb530) ∧ (gb547 ≠ s_.2.2.2) ∧ (s_.2.2.2 ≠ gb547) ∧ (gb562 ≠ s_.2.2.2) ∧ (s_.2.2.2 ≠ gb562) ∧ (Below w.heap.size w w')) ?_ ?_
 rotate_left
 ·intro hJ2_4_6_7_12
  refine join_ (σ := Value × Value × Value) 4 (bv_ 16 4095) (fun s_ => [(124, s_.1), (126, s_.2.1), (128, .agg #[.int .i64 t587, .int .i64 t588]), (129, .tuple #[s_.2.2, .agg #[.int .i64 t592, .int .i64 t593], .int .i64 t594]), (121, .tuple #[s_.2.2, .agg #[.int .i64 t592, .int .i64 t593], .int .i64 t594]), (130, s_.2.2), (131, .agg #[.int .i64 t592, .int .i64 t593]), (132, .int .i64 t594)]) (fun s_ w' => (w'.cell? ⟨gb530, 0, none⟩ = some (.int .i64 a3_0) ∧ w'.cell? ⟨gb530, 1, none⟩ = some (.int .i64 a3_1)) ∧ (Kd.R k46 46 w' w.heap.size (fun k_ => some k_ ≠ (.slice Ao70 t548.length co70 : Value).ownBlock ∧ some k_ ≠ (.slice Ao82 t565.length co82 : Value).ownBlock ∧ some k_ ≠ (s_.1 : Value).ownBlock) v534 t533) ∧ (Kd.R k150 150 w' w.heap.size (fun k_ => some k_ ≠ (.slice Ao71 t551.length co71 : Value).ownBlock ∧ some k_ ≠ (.slice Ao85 t569.length co85 : Value).ownBlock ∧ some k_ ≠ (s_.2.1 : Value).ownBlock) v537 t536) ∧ (Kd.R (Kd.int .i64) 2 w' w.heap.size (fun k_ => some k_ ≠ (.slice Ao77 t556.length co77 : Value).ownBlock ∧ some k_ ≠ (s_.2.2 : Value).ownBlock) (.slice Ao78 t541.length co78) t541) ∧ (Kd.R k46 46 w' w.heap.size (fun k_ => some k_ ≠ (v534 : Value).ownBlock ∧ some k_ ≠ (.slice Ao82 t565.length co82 : Value).ownBlock ∧ some k_ ≠ (s_.1 : Value).ownBlock) (.slice Ao70 t548.length co70) t548) ∧ (Kd.R k150 150 w' w.heap.size (fun k_ => some k_ ≠ (v537 : Value).ownBlock ∧ some k_ ≠ (.slice Ao85 t569.length co85 : Value).ownBlock ∧ some k_ ≠ (s_.2.1 : Value).ownBlock) (.slice Ao71 t551.length co71) t575) ∧ (Kd.R (Kd.int .i64) 2 w' w.heap.size (fun k_ => some k_ ≠ (.slice Ao78 t541.length co78 : Value).ownBlock ∧ some k_ ≠ (s_.2.2 : Value).ownBlock) (.slice Ao77 t556.length co77) t579) ∧ (Kd.R k46 46 w' w.heap.size (fun k_ => some k_ ≠ (v534 : Value).ownBlock ∧ some k_ ≠ (.slice Ao70 t548.length co70 : Value).ownBlock ∧ some k_ ≠ (s_.1 : Value).ownBlock) (.slice Ao82 t565.length co82) t565) ∧ (Kd.R k150 150 w' w.heap.size (fun k_ => some k_ ≠ (v537 : Value).ownBlock ∧ some k_ ≠ (.slice Ao71 t551.length co71 : Value).ownBlock ∧ some k_ ≠ (s_.2.1 : Value).ownBlock) (.slice Ao85 t569.length co85) t569) ∧ (Kd.R k46 46 w' w.heap.size (fun k_ => some k_ ≠ (v534 : Value).ownBlock ∧ some k_ ≠ (.slice Ao70 t548.length co70 : Value).ownBlock ∧ some k_ ≠ (.slice Ao82 t565.length co82 : Value).ownBlock) s_.1 t581) ∧ (Kd.R k150 150 w' w.heap.size (fun k_ => some k_ ≠ (v537 : Value).ownBlock ∧ some k_ ≠ (.slice Ao71 t551.length co71 : Value).ownBlock ∧ some k_ ≠ (.slice Ao85 t569.length co85 : Value).ownBlock) s_.2.1 t584) ∧ (Kd.R (Kd.int .i64) 2 w' w.heap.size (fun k_ => some k_ ≠ (.slice Ao78 t541.length co78 : Value).ownBlock ∧ some k_ ≠ (.slice Ao77 t556.length co77 : Value).ownBlock) s_.2.2 t589) ∧ (w'.heap[gb530]? = some (.cells #[.int .i64 a3_0, .int .i64 a3_1] 71 (0, 0))) ∧ (w'.heap[gb547]? = some (.cells #[.int .i64 t544, .int .i64 t545] 74 (0, 0))) ∧ (w'.heap[gb562]? = some (.cells #[.int .i64 t559, .int .i64 t560] 74 (0, 0))) ∧ (Below w.heap.size w w')) ?_ ?_
  rotate_left
  ·intro hJ2_4_6_7
   refine join_ (σ := Value × Value × Nat) 8 (bv_ 16 4223) (fun s_ => [(124, s_.1), (126, s_.2.1), (128, .agg #[.int .i64 t587, .int .i64 t588]), (22, .pointer (some ⟨s_.2.2, 0, none⟩))]) (fun s_ w' => (w'.cell? ⟨gb530, 0, none⟩ = some (.int .i64 a3_0) ∧ w'.cell? ⟨gb530, 1, none⟩ = some (.int .i64 a3_1)) ∧ (Kd.R k46 46 w' w.heap.size (fun k_ => some k_ ≠ (.slice Ao70 t548.length co70 : Value).ownBlock ∧ some k_ ≠ (.slice Ao82 t565.length co82 : Value).ownBlock ∧ some k_ ≠ (s_.1 : Value).ownBlock) v534 t533) ∧ (Kd.R k150 150 w' w.heap.size (fun k_ => some k_ ≠ (.slice Ao71 t551.length co71 : Value).ownBlock ∧ some k_ ≠ (.slice Ao85 t569.length co85 : Value).ownBlock ∧ some k_ ≠ (s_.2.1 : Value).ownBlock) v537 t536) ∧ (Kd.R (Kd.int .i64) 2 w' w.heap.size (fun k_ => some k_ ≠ (.slice Ao77 t556.length co77 : Value).ownBlock) (.slice Ao78 t541.length co78) t541) ∧ (Kd.R k46 46 w' w.heap.size (fun k_ => some k_ ≠ (v534 : Value).ownBlock ∧ some k_ ≠ (.slice Ao82 t565.length co82 : Value).ownBlock ∧ some k_ ≠ (s_.1 : Value).ownBlock) (.slice Ao70 t548.length co70) t548) ∧ (Kd.R k150 150 w' w.heap.size (fun k_ => some k_ ≠ (v537 : Value).ownBlock ∧ some k_ ≠ (.slice Ao85 t569.length co85 : Value).ownBlock ∧ some k_ ≠ (s_.2.1 : Value).ownBlock) (.slice Ao71 t551.length co71) t575) ∧ (Kd.R (Kd.int .i64) 2 w' w.heap.size (fun k_ => some k_ ≠ (.slice Ao78 t541.length co78 : Value).ownBlock) (.slice Ao77 t556.length co77) t579) ∧ (Kd.R k46 46 w' w.heap.size (fun k_ => some k_ ≠ (v534 : Value).ownBlock ∧ some k_ ≠ (.slice Ao70 t548.length co70 : Value).ownBlock ∧ some k_ ≠ (s_.1 : Value).ownBlock) (.slice Ao82 t565.length co82) t565) ∧ (Kd.R k150 150 w' w.heap.size (fun k_ => some k_ ≠ (v537 : Value).ownBlock ∧ some k_ ≠ (.slice Ao71 t551.length co71 : Value).ownBlock ∧ some k_ ≠ (s_.2.1 : Value).ownBlock) (.slice Ao85 t569.length co85) t569) ∧ (Kd.R k46 46 w' w.heap.size (fun k_ => some k_ ≠ (v534 : Value).ownBlock ∧ some k_ ≠ (.slice Ao70 t548.length co70 : Value).ownBlock ∧ some k_ ≠ (.slice Ao82 t565.length co82 : Value).ownBlock) s_.1 t581) ∧ (Kd.R k150 150 w' w.heap.size (fun k_ => some k_ ≠ (v537 : Value).ownBlock ∧ some k_ ≠ (.slice Ao71 t551.length co71 : Value).ownBlock ∧ some k_ ≠ (.slice Ao85 t569.length co85 : Value).ownBlock) s_.2.1 t584) ∧ (w'.heap[gb530]? = some (.cells #[.int .i64 a3_0, .int .i64 a3_1] 71 (0, 0))) ∧ (w'.heap[gb547]? = some (.cells #[.int .i64 t544, .int .i64 t545] 74 (0, 0))) ∧ (w'.heap[gb562]? = some (.cells #[.int .i64 t559, .int .i64 t560] 74 (0, 0))) ∧ (w'.heap[s_.2.2]? = some (.cells #[.int .i64 0, .int .i64 0] 74 (0, 0))) ∧ (w.heap.size ≤ s_.2.2) ∧ (w.heap.size ≤ s_.2.2) ∧ (gb530 ≠ s_.2.2) ∧ (s_.2.2 ≠ gb530) ∧ (gb547 ≠ s_.2.2) ∧ (s_.2.2 ≠ gb547) ∧ (gb562 ≠ s_.2.2) ∧ (s_.2.2 ≠ gb562) ∧ (Below w.heap.size w w')) ?_ ?_
   rotate_left
   ·intro hJ2_4_6_12
    refine join_ (σ := Value × Value) 9 (bv_ 16 127) (fun s_ => [(124, s_.1), (126, s_.2), (128, .agg #[.int .i64 t587, .int .i64 t588])]) (fun s_ w' => (w'.cell? ⟨gb530, 0, none⟩ = some (.int .i64 a3_0) ∧ w'.cell? ⟨gb530, 1, none⟩ = some (.int .i64 a3_1)) ∧ (Kd.R k46 46 w' w.heap.size (fun k_ => some k_ ≠ (.slice Ao70 t548.length co70 : Value).ownBlock ∧ some k_ ≠ (.slice Ao82 t565.length co82 : Value).ownBlock ∧ some k_ ≠ (s_.1 : Value).ownBlock) v534 t533) ∧ (Kd.R k150 150 w' w.heap.size (fun k_ => some k_ ≠ (.slice Ao71 t551.length co71 : Value).ownBlock ∧ some k_ ≠ (.slice Ao85 t569.length co85 : Value).ownBlock ∧ some k_ ≠ (s_.2 : Value).ownBlock) v537 t536) ∧ (Kd.R (Kd.int .i64) 2 w' w.heap.size (fun k_ => some k_ ≠ (.slice Ao77 t556.length co77 : Value).ownBlock) (.slice Ao78 t541.length co78) t541) ∧ (Kd.R k46 46 w' w.heap.size (fun k_ => some k_ ≠ (v534 : Value).ownBlock ∧ some k_ ≠ (.slice Ao82 t565.length co82 : Value).ownBlock ∧ some k_ ≠ (s_.1 : Value).ownBlock) (.slice Ao70 t548.length co70) t548) ∧ (Kd.R k150 150 w' w.heap.size (fun k_ => some k_ ≠ (v537 : Value).ownBlock ∧ some k_ ≠ (.slice Ao85 t569.length co85 : Value).ownBlock ∧ some k_ ≠ (s_.2 : Value).ownBlock) (.slice Ao71 t551.length co71) t575) ∧ (Kd.R (Kd.int .i64) 2 w' w.heap.size (fun k_ => some k_ ≠ (.slice Ao78 t541.length co78 : Value).ownBlock) (.slice Ao77 t556.length co77) t579) ∧ (Kd.R k46 46 w' w.heap.size (fun k_ => some k_ ≠ (v534 : Value).ownBlock ∧ some k_ ≠ (.slice Ao70 t548.length co70 : Value).ownBlock ∧ some k_ ≠ (s_.1 : Value).ownBlock) (.slice Ao82 t565.length co82) t565) ∧ (Kd.R k150 150 w' w.heap.size (fun k_ => some k_ ≠ (v537 : Value).ownBlock ∧ some k_ ≠ (.slice Ao71 t551.length co71 : Value).ownBlock ∧ some k_ ≠ (s_.2 : Value).ownBlock) (.slice Ao85 t569.length co85) t569) ∧ (Kd.R k46 46 w' w.heap.size (fun k_ => some k_ ≠ (v534 : Value).ownBlock ∧ some k_ ≠ (.slice Ao70 t548.length co70 : Value).ownBlock ∧ some k_ ≠ (.slice Ao82 t565.length co82 : Value).ownBlock) s_.1 t581) ∧ (Kd.R k150 150 w' w.heap.size (fun k_ => some k_ ≠ (v537 : Value).ownBlock ∧ some k_ ≠ (.slice Ao71 t551.length co71 : Value).ownBlock ∧ some k_ ≠ (.slice Ao85 t569.length co85 : Value).ownBlock) s_.2 t584) ∧ (w'.heap[gb530]? = some (.cells #[.int .i64 a3_0, .int .i64 a3_1] 71 (0, 0))) ∧ (w'.heap[gb547]? = some (.cells #[.int .i64 t544, .int .i64 t545] 74 (0, 0))) ∧ (w'.heap[gb562]? = some (.cells #[.int .i64 t559, .int .i64 t560] 74 (0, 0))) ∧ (Below w.heap.size w w')) ?_ ?_
    rotate_left
    ·intro hJ2_4_6
     refine join_ (σ := Value × Value × Nat) 9 (bv_ 16 4159) (fun s_ => [(124, s_.1), (126, s_.2.1), (22, .pointer (some ⟨s_.2.2, 0, none⟩))]) (fun s_ w' => (w'.cell? ⟨gb530, 0, none⟩ = some (.int .i64 a3_0) ∧ w'.cell? ⟨gb530, 1, none⟩ = some (.int .i64 a3_1)) ∧ (Kd.R k46 46 w' w.heap.size (fun k_ => some k_ ≠ (.slice Ao70 t548.length co70 : Value).ownBlock ∧ some k_ ≠ (.slice Ao82 t565.length co82 : Value).ownBlock ∧ some k_ ≠ (s_.1 : Value).ownBlock) v534 t533) ∧ (Kd.R k150 150 w' w.heap.size (fun k_ => some k_ ≠ (.slice Ao71 t551.length co71 : Value).ownBlock ∧ some k_ ≠ (.slice Ao85 t569.length co85 : Value).ownBlock ∧ some k_ ≠ (s_.2.1 : Value).ownBlock) v537 t536) ∧ (Kd.R (Kd.int .i64) 2 w' w.heap.size (fun k_ => some k_ ≠ (.slice Ao77 t556.length co77 : Value).ownBlock) (.slice Ao78 t541.length co78) t541) ∧ (Kd.R k46 46 w' w.heap.size (fun k_ => some k_ ≠ (v534 : Value).ownBlock ∧ some k_ ≠ (.slice Ao82 t565.length co82 : Value).ownBlock ∧ some k_ ≠ (s_.1 : Value).ownBlock) (.slice Ao70 t548.length co70) t548) ∧ (Kd.R k150 150 w' w.heap.size (fun k_ => some k_ ≠ (v537 : Value).ownBlock ∧ some k_ ≠ (.slice Ao85 t569.length co85 : Value).ownBlock ∧ some k_ ≠ (s_.2.1 : Value).ownBlock) (.slice Ao71 t551.length co71) t575) ∧ (Kd.R (Kd.int .i64) 2 w' w.heap.size (fun k_ => some k_ ≠ (.slice Ao78 t541.length co78 : Value).ownBlock) (.slice Ao77 t556.length co77) t579) ∧ (Kd.R k46 46 w' w.heap.size (fun k_ => some k_ ≠ (v534 : Value).ownBlock ∧ some k_ ≠ (.slice Ao70 t548.length co70 : Value).ownBlock ∧ some k_ ≠ (s_.1 : Value).ownBlock) (.slice Ao82 t565.length co82) t565) ∧ (Kd.R k150 150 w' w.heap.size (fun k_ => some k_ ≠ (v537 : Value).ownBlock ∧ some k_ ≠ (.slice Ao71 t551.length co71 : Value).ownBlock ∧ some k_ ≠ (s_.2.1 : Value).ownBlock) (.slice Ao85 t569.length co85) t569) ∧ (Kd.R k46 46 w' w.heap.size (fun k_ => some k_ ≠ (v534 : Value).ownBlock ∧ some k_ ≠ (.slice Ao70 t548.length co70 : Value).ownBlock ∧ some k_ ≠ (.slice Ao82 t565.length co82 : Value).ownBlock) s_.1 t581) ∧ (Kd.R k150 150 w' w.heap.size (fun k_ => some k_ ≠ (v537 : Value).ownBlock ∧ some k_ ≠ (.slice Ao71 t551.length co71 : Value).ownBlock ∧ some k_ ≠ (.slice Ao85 t569.length co85 : Value).ownBlock) s_.2.1 t584) ∧ (w'.heap[gb530]? = some (.cells #[.int .i64 a3_0, .int .i64 a3_1] 71 (0, 0))) ∧ (w'.heap[gb547]? = some (.cells #[.int .i64 t544, .int .i64 t545] 74 (0, 0))) ∧ (w'.heap[gb562]? = some (.cells #[.int .i64 t559, .int .i64 t560] 74 (0, 0))) ∧ (w'.heap[s_.2.2]? = some (.cells #[.int .i64 0, .int .i64 0] 74 (0, 0))) ∧ (w.heap.size ≤ s_.2.2) ∧ (w.heap.size ≤ s_.2.2) ∧ (gb530 ≠ s_.2.2) ∧ (s_.2.2 ≠ gb530) ∧ (gb547 ≠ s_.2.2) ∧ (s_.2.2 ≠ gb547) ∧ (gb562 ≠ s_.2.2) ∧ (s_.2.2 ≠ gb562) ∧ (Below w.heap.size w w')) ?_ ?_
     rotate_left
     ·intro hJ2_4_12
      refine join_ (σ := Value × Value) 10 (bv_ 16 63) (fun s_ => [(124, s_.1), (126, s_.2)]) (fun s_ w' => (w'.cell? ⟨gb530, 0, none⟩ = some (.int .i64 a3_0) ∧ w'.cell? ⟨gb530, 1, none⟩ = some (.int .i64 a3_1)) ∧ (Kd.R k46 46 w' w.heap.size (fun k_ => some k_ ≠ (.slice Ao70 t548.length co70 : Value).ownBlock ∧ some k_ ≠ (.slice Ao82 t565.length co82 : Value).ownBlock ∧ some k_ ≠ (s_.1 : Value).ownBlock) v534 t533) ∧ (Kd.R k150 150 w' w.heap.size (fun k_ => some k_ ≠ (.slice Ao71 t551.length co71 : Value).ownBlock ∧ some k_ ≠ (.slice Ao85 t569.length co85 : Value).ownBlock ∧ some k_ ≠ (s_.2 : Value).ownBlock) v537 t536) ∧ (Kd.R (Kd.int .i64) 2 w' w.heap.size (fun k_ => some k_ ≠ (.slice Ao77 t556.length co77 : Value).ownBlock) (.slice Ao78 t541.length co78) t541) ∧ (Kd.R k46 46 w' w.heap.size (fun k_ => some k_ ≠ (v534 : Value).ownBlock ∧ some k_ ≠ (.slice Ao82 t565.length co82 : Value).ownBlock ∧ some k_ ≠ (s_.1 : Value).ownBlock) (.slice Ao70 t548.length co70) t548) ∧ (Kd.R k150 150 w' w.heap.size (fun k_ => some k_ ≠ (v537 : Value).ownBlock ∧ some k_ ≠ (.slice Ao85 t569.length co85 : Value).ownBlock ∧ some k_ ≠ (s_.2 : Value).ownBlock) (.slice Ao71 t551.length co71) t575) ∧ (Kd.R (Kd.int .i64) 2 w' w.heap.size (fun k_ => some k_ ≠ (.slice Ao78 t541.length co78 : Value).ownBlock) (.slice Ao77 t556.length co77) t579) ∧ (Kd.R k46 46 w' w.heap.size (fun k_ => some k_ ≠ (v534 : Value).ownBlock ∧ some k_ ≠ (.slice Ao70 t548.length co70 : Value).ownBlock ∧ some k_ ≠ (s_.1 : Value).ownBlock) (.slice Ao82 t565.length co82) t565) ∧ (Kd.R k150 150 w' w.heap.size (fun k_ => some k_ ≠ (v537 : Value).ownBlock ∧ some k_ ≠ (.slice Ao71 t551.length co71 : Value).ownBlock ∧ some k_ ≠ (s_.2 : Value).ownBlock) (.slice Ao85 t569.length co85) t569) ∧ (Kd.R k46 46 w' w.heap.size (fun k_ => some k_ ≠ (v534 : Value).ownBlock ∧ some k_ ≠ (.slice Ao70 t548.length co70 : Value).ownBlock ∧ some k_ ≠ (.slice Ao82 t565.length co82 : Value).ownBlock) s_.1 t581) ∧ (Kd.R k150 150 w' w.heap.size (fun k_ => some k_ ≠ (v537 : Value).ownBlock ∧ some k_ ≠ (.slice Ao71 t551.length co71 : Value).ownBlock ∧ some k_ ≠ (.slice Ao85 t569.length co85 : Value).ownBlock) s_.2 t584) ∧ (w'.heap[gb530]? = some (.cells #[.int .i64 a3_0, .int .i64 a3_1] 71 (0, 0))) ∧ (w'.heap[gb547]? = some (.cells #[.int .i64 t544, .int .i64 t545] 74 (0, 0))) ∧ (w'.heap[gb562]? = some (.cells #[.int .i64 t559, .int .i64 t560] 74 (0, 0))) ∧ (Below w.heap.size w w')) ?_ ?_
      rotate_left
      ·intro hJ2_4
       refine join_ (σ := Value × Nat) 10 (bv_ 16 4143) (fun s_ => [(124, s_.1), (22, .pointer (some ⟨s_.2, 0, none⟩))]) (fun s_ w' => (w'.cell? ⟨gb530, 0, none⟩ = some (.int .i64 a3_0) ∧ w'.cell? ⟨gb530, 1, none⟩ = some (.int .i64 a3_1)) ∧ (Kd.R k46 46 w' w.heap.size (fun k_ => some k_ ≠ (.slice Ao70 t548.length co70 : Value).ownBlock ∧ some k_ ≠ (.slice Ao82 t565.length co82 : Value).ownBlock ∧ some k_ ≠ (s_.1 : Value).ownBlock) v534 t533) ∧ (Kd.R k150 150 w' w.heap.size (fun k_ => some k_ ≠ (.slice Ao71 t551.length co71 : Value).ownBlock ∧ some k_ ≠ (.slice Ao85 t569.length co85 : Value).ownBlock) v537 t536) ∧ (Kd.R (Kd.int .i64) 2 w' w.heap.size (fun k_ => some k_ ≠ (.slice Ao77 t556.length co77 : Value).ownBlock) (.slice Ao78 t541.length co78) t541) ∧ (Kd.R k46 46 w' w.heap.size (fun k_ => some k_ ≠ (v534 : Value).ownBlock ∧ some k_ ≠ (.slice Ao82 t565.length co82 : Value).ownBlock ∧ some k_ ≠ (s_.1 : Value).ownBlock) (.slice Ao70 t548.length co70) t548) ∧ (Kd.R k150 150 w' w.heap.size (fun k_ => some k_ ≠ (v537 : Value).ownBlock ∧ some k_ ≠ (.slice Ao85 t569.length co85 : Value).ownBlock) (.slice Ao71 t551.length co71) t575) ∧ (Kd.R (Kd.int .i64) 2 w' w.heap.size (fun k_ => some k_ ≠ (.slice Ao78 t541.length co78 : Value).ownBlock) (.slice Ao77 t556.length co77) t579) ∧ (Kd.R k46 46 w' w.heap.size (fun k_ => some k_ ≠ (v534 : Value).ownBlock ∧ some k_ ≠ (.slice Ao70 t548.length co70 : Value).ownBlock ∧ some k_ ≠ (s_.1 : Value).ownBlock) (.slice Ao82 t565.length co82) t565) ∧ (Kd.R k150 150 w' w.heap.size (fun k_ => some k_ ≠ (v537 : Value).ownBlock ∧ some k_ ≠ (.slice Ao71 t551.length co71 : Value).ownBlock) (.slice Ao85 t569.length co85) t569) ∧ (Kd.R k46 46 w' w.heap.size (fun k_ => some k_ ≠ (v534 : Value).ownBlock ∧ some k_ ≠ (.slice Ao70 t548.length co70 : Value).ownBlock ∧ some k_ ≠ (.slice Ao82 t565.length co82 : Value).ownBlock) s_.1 t581) ∧ (w'.heap[gb530]? = some (.cells #[.int .i64 a3_0, .int .i64 a3_1] 71 (0, 0))) ∧ (w'.heap[gb547]? = some (.cells #[.int .i64 t544, .int .i64 t545] 74 (0, 0))) ∧ (w'.heap[gb562]? = some (.cells #[.int .i64 t559, .int .i64 t560] 74 (0, 0))) ∧ (w'.heap[s_.2]? = some (.cells #[.int .i64 0, .int .i64 0] 74 (0, 0))) ∧ (w.heap.size ≤ s_.2) ∧ (w.heap.size ≤ s_.2) ∧ (gb530 ≠ s_.2) ∧ (s_.2 ≠ gb530) ∧ (gb547 ≠ s_.2) ∧ (s_.2 ≠ gb547) ∧ (gb562 ≠ s_.2) ∧ (s_.2 ≠ gb562) ∧ (Below w.heap.size w w')) ?_ ?_
       rotate_left
       ·intro hJ2_12
        refine join_ (σ := Value) 11 (bv_ 16 47) (fun s_ => [(124, s_)]) (fun s_ w' => (w'.cell? ⟨gb530, 0, none⟩ = some (.int .i64 a3_0) ∧ w'.cell? ⟨gb530, 1, none⟩ = some (.int .i64 a3_1)) ∧ (Kd.R k46 46 w' w.heap.size (fun k_ => some k_ ≠ (.slice Ao70 t548.length co70 : Value).ownBlock ∧ some k_ ≠ (.slice Ao82 t565.length co82 : Value).ownBlock ∧ some k_ ≠ (s_ : Value).ownBlock) v534 t533) ∧ (Kd.R k150 150 w' w.heap.size (fun k_ => some k_ ≠ (.slice Ao71 t551.length co71 : Value).ownBlock ∧ some k_ ≠ (.slice Ao85 t569.length co85 : Value).ownBlock) v537 t536) ∧ (Kd.R (Kd.int .i64) 2 w' w.heap.size (fun k_ => some k_ ≠ (.slice Ao77 t556.length co77 : Value).ownBlock) (.slice Ao78 t541.length co78) t541) ∧ (Kd.R k46 46 w' w.heap.size (fun k_ => some k_ ≠ (v534 : Value).ownBlock ∧ some k_ ≠ (.slice Ao82 t565.length co82 : Value).ownBlock ∧ some k_ ≠ (s_ : Value).ownBlock) (.slice Ao70 t548.length co70) t548) ∧ (Kd.R k150 150 w' w.heap.size (fun k_ => some k_ ≠ (v537 : Value).ownBlock ∧ some k_ ≠ (.slice Ao85 t569.length co85 : Value).ownBlock) (.slice Ao71 t551.length co71) t575) ∧ (Kd.R (Kd.int .i64) 2 w' w.heap.size (fun k_ => some k_ ≠ (.slice Ao78 t541.length co78 : Value).ownBlock) (.slice Ao77 t556.length co77) t579) ∧ (Kd.R k46 46 w' w.heap.size (fun k_ => some k_ ≠ (v534 : Value).ownBlock ∧ some k_ ≠ (.slice Ao70 t548.length co70 : Value).ownBlock ∧ some k_ ≠ (s_ : Value).ownBlock) (.slice Ao82 t565.length co82) t565) ∧ (Kd.R k150 150 w' w.heap.size (fun k_ => some k_ ≠ (v537 : Value).ownBlock ∧ some k_ ≠ (.slice Ao71 t551.length co71 : Value).ownBlock) (.slice Ao85 t569.length co85) t569) ∧ (Kd.R k46 46 w' w.heap.size (fun k_ => some k_ ≠ (v534 : Value).ownBlock ∧ some k_ ≠ (.slice Ao70 t548.length co70 : Value).ownBlock ∧ some k_ ≠ (.slice Ao82 t565.length co82 : Value).ownBlock) s_ t581) ∧ (w'.heap[gb530]? = some (.cells #[.int .i64 a3_0, .int .i64 a3_1] 71 (0, 0))) ∧ (w'.heap[gb547]? = some (.cells #[.int .i64 t544, .int .i64 t545] 74 (0, 0))) ∧ (w'.heap[gb562]? = some (.cells #[.int .i64 t559, .int .i64 t560] 74 (0, 0))) ∧ (Below w.heap.size w w')) ?_ ?_
        rotate_left
        ·intro hJ2
         refine join_ (σ := Nat) 11 (bv_ 16 4139) (fun s_ => [(22, .pointer (some ⟨s_, 0, none⟩))]) (fun s_ w' => (w'.cell? ⟨gb530, 0, none⟩ = some (.int .i64 a3_0) ∧ w'.cell? ⟨gb530, 1, none⟩ = some (.int .i64 a3_1)) ∧ (Kd.R k46 46 w' w.heap.size (fun k_ => some k_ ≠ (.slice Ao70 t548.length co70 : Value).ownBlock ∧ some k_ ≠ (.slice Ao82 t565.length co82 : Value).ownBlock) v534 t533) ∧ (Kd.R k150 150 w' w.heap.size (fun k_ => some k_ ≠ (.slice Ao71 t551.length co71 : Value).ownBlock ∧ some k_ ≠ (.slice Ao85 t569.length co85 : Value).ownBlock) v537 t536) ∧ (Kd.R (Kd.int .i64) 2 w' w.heap.size (fun k_ => some k_ ≠ (.slice Ao77 t556.length co77 : Value).ownBlock) (.slice Ao78 t541.length co78) t541) ∧ (Kd.R k46 46 w' w.heap.size (fun k_ => some k_ ≠ (v534 : Value).ownBlock ∧ some k_ ≠ (.slice Ao82 t565.length co82 : Value).ownBlock) (.slice Ao70 t548.length co70) t548) ∧ (Kd.R k150 150 w' w.heap.size (fun k_ => some k_ ≠ (v537 : Value).ownBlock ∧ some k_ ≠ (.slice Ao85 t569.length co85 : Value).ownBlock) (.slice Ao71 t551.length co71) t575) ∧ (Kd.R (Kd.int .i64) 2 w' w.heap.size (fun k_ => some k_ ≠ (.slice Ao78 t541.length co78 : Value).ownBlock) (.slice Ao77 t556.length co77) t579) ∧ (Kd.R k46 46 w' w.heap.size (fun k_ => some k_ ≠ (v534 : Value).ownBlock ∧ some k_ ≠ (.slice Ao70 t548.length co70 : Value).ownBlock) (.slice Ao82 t565.length co82) t565) ∧ (Kd.R k150 150 w' w.heap.size (fun k_ => some k_ ≠ (v537 : Value).ownBlock ∧ some k_ ≠ (.slice Ao71 t551.length co71 : Value).ownBlock) (.slice Ao85 t569.length co85) t569) ∧ (w'.heap[gb530]? = some (.cells #[.int .i64 a3_0, .int .i64 a3_1] 71 (0, 0))) ∧ (w'.heap[gb547]? = some (.cells #[.int .i64 t544, .int .i64 t545] 74 (0, 0))) ∧ (w'.heap[gb562]? = some (.cells #[.int .i64 t559, .int .i64 t560] 74 (0, 0))) ∧ (w'.heap[s_]? = some (.cells #[.int .i64 0, .int .i64 0] 74 (0, 0))) ∧ (w.heap.size ≤ s_) ∧ (w.heap.size ≤ s_) ∧ (gb530 ≠ s_) ∧ (s_ ≠ gb530) ∧ (gb547 ≠ s_) ∧ (s_ ≠ gb547) ∧ (gb562 ≠ s_) ∧ (s_ ≠ gb562) ∧ (Below w.heap.size w w')) ?_ ?_
         rotate_left
         ·intro hJ12
          refine tw_ HT_ 2 12 (some 124) (some 22) (bv_ 16 47) (bv_ 16 4139) (fun K hK => ?_) (fun K hK => ?_)
          ·skip
           refine gs_ Try.func61 #[.slice A1 l1.length c1] ?_
           with_reducible refine (laws_toMatrixS.calls k _ _ l1 t581 _ ?side1 ?side2 A41.out).mono ?_
           (case side1 => exact ca_ (Kd.C_below HR1.out HB.out))
           (case side2 => exact HC1.out)
           rintro e w93 ⟨v582, rfl, ho0, hb⟩
           refine ⟨_, rfl, ?_⟩
           have HO583 := Aside0.mk (Kd.R_lower (Kd.R_new' (Kd.R_new' (Kd.R_new' ho0 (Kd.R_lt (ra_ HO535.out))) (Kd.R_lt (ra_ HO550.out))) (Kd.R_lt (ra_ HO567.out))) (below_size (bw_ HB).out))
           replace HO535 := Aside0.mk (Kd.R_elder' (ra_ HO535.out) (Kd.R_base ho0) hb)
           replace HO538 := rb_ HO538 hb
           replace HO543 := rb_ HO543 hb
           replace HO550 := Aside0.mk (Kd.R_elder' (ra_ HO550.out) (Kd.R_base ho0) hb)
           replace HO553 := rb_ HO553 hb
           replace HO558 := rb_ HO558 hb
           replace HO567 := Aside0.mk (Kd.R_elder' (ra_ HO567.out) (Kd.R_base ho0) hb)
           replace HO571 := rb_ HO571 hb
           replace BK530 := bb_ BK530 hb
           replace BK547 := bb_ BK547 hb
           replace BK562 := bb_ BK562 hb
           replace HB := bt_ HB hb
           try clear hb
           (try clear ho0)
           refine hK.out _ _ ⟨cz_ BK530 0, cz_ BK530 1⟩ (fun hHeld => ?_)
           clear hK K
           refine nm_ (some 124) ?_
           exact norm_ (by first | (simp only [putAll, Act.put, lstS, lstZ, lstC]; done) | (simp only [putAll, Act.put, lstS, lstZ, lstC]; rfl)) (hJ2 (v582) _ ⟨hHeld, (by (with_reducible repeat (first | apply Kd.R_alloc | apply Kd.R_drewN | apply Kd.R_drew)); exact Kd.R_mono HO535.out (fun _ hk => ⟨hk.1.1, ⟨hk.1.2, hk.2⟩⟩)), (ra_ HO538.out), (ra_ HO543.out), (by (with_reducible repeat (first | apply Kd.R_alloc | apply Kd.R_drewN | apply Kd.R_drew)); exact Kd.R_mono HO550.out (fun _ hk => ⟨hk.1.1, ⟨hk.1.2, hk.2⟩⟩)), (ra_ HO553.out), (ra_ HO558.out), (by (with_reducible repeat (first | apply Kd.R_alloc | apply Kd.R_drewN | apply Kd.R_drew)); exact Kd.R_mono HO567.out (fun _ hk => ⟨hk.1.1, ⟨hk.1.2, hk.2⟩⟩)), (ra_ HO571.out), (by (with_reducible repeat (first | apply Kd.R_alloc | apply Kd.R_drewN | apply Kd.R_drew)); exact Kd.R_mono HO583.out (fun _ hk => ⟨hk.1.1.2, ⟨hk.1.2, hk.2⟩⟩)), (bl_ BK530).out, (bl_ BK547).out, (bl_ BK562).out, (bw_ HB).out⟩)
          skip
          refine bz_ 22 #[.int .i64 0, .int .i64 0] 74 ?_
          intro gb595 hg w93 BK595 hb
          have GW595 := bs_ HB hg
          have NB530_595 := bm_ BK530 hg
          have NB595_530 := bn_ BK530 hg
          have NB547_595 := bm_ BK547 hg
          have NB595_547 := bn_ BK547 hg
          have NB562_595 := bm_ BK562 hg
          have NB595_562 := bn_ BK562 hg
          replace HO535 := rb_ HO535 hb
          replace HO538 := rb_ HO538 hb
          replace HO543 := rb_ HO543 hb
          replace HO550 := rb_ HO550 hb
          replace HO553 := rb_ HO553 hb
          replace HO558 := rb_ HO558 hb
          replace HO567 := rb_ HO567 hb
          replace HO571 := rb_ HO571 hb
          replace BK530 := bb_ BK530 hb
          replace BK547 := bb_ BK547 hb
          replace BK562 := bb_ BK562 hb
          replace HB := bt_ HB hb
          clear hb hg
          refine hK.out _ _ ⟨cz_ BK530 0, cz_ BK530 1⟩ (fun hHeld => ?_)
          clear hK K
          refine nm_ (some 22) ?_
          exact norm_ (by first | (simp only [putAll, Act.put, lstS, lstZ, lstC]; done) | (simp only [putAll, Act.put, lstS, lstZ, lstC]; rfl)) (hJ12 (gb595) _ ⟨hHeld, (ra_ HO535.out), (ra_ HO538.out), (ra_ HO543.out), (ra_ HO550.out), (ra_ HO553.out), (ra_ HO558.out), (ra_ HO567.out), (ra_ HO571.out), (bl_ BK530).out, (bl_ BK547).out, (bl_ BK562).out, (bl_ BK595).out, GW595.out, GW595.out, NB530_595.out, NB595_530.out, NB547_595.out, NB595_547.out, NB562_595.out, NB595_562.out, (bw_ HB).out⟩)
         skip
         rintro gb595 w94 ⟨hS_, h0_, h1_, h2_, h3_, h4_, h5_, h6_, h7_, h8_, h9_, h10_, h11_, h12_, h13_, h14_, h15_, h16_, h17_, h18_, h19_, h20_⟩
         clear HO535 HO538 HO543 HO550 HO553 HO558 HO567 HO571 BK530 BK547 BK562 HB
         have HO535 := Aside0.mk h0_
         have HO538 := Aside0.mk h1_
         have HO543 := Aside0.mk h2_
         have HO550 := Aside0.mk h3_
         have HO553 := Aside0.mk h4_
         have HO558 := Aside0.mk h5_
         have HO567 := Aside0.mk h6_
         have HO571 := Aside0.mk h7_
         have BK530 := Aside0.mk h8_
         have BK547 := Aside0.mk h9_
         have BK562 := Aside0.mk h10_
         have BK595 := Aside0.mk h11_
         have GW595 := Aside0.mk h12_
         have GW595 := Aside0.mk h13_
         have NB530_595 := Aside0.mk h14_
         have NB595_530 := Aside0.mk h15_
         have NB547_595 := Aside0.mk h16_
         have NB595_547 := Aside0.mk h17_
         have NB562_595 := Aside0.mk h18_
         have NB595_562 := Aside0.mk h19_
         have HB := Aside0.mk h20_
         clear h0_ h1_ h2_ h3_ h4_ h5_ h6_ h7_ h8_ h9_ h10_ h11_ h12_ h13_ h14_ h15_ h16_ h17_ h18_ h19_ h20_
         have hHeld : w94.cell? ⟨gb530, 0, none⟩ = some (.int .i64 a3_0) ∧ w94.cell? ⟨gb530, 1, none⟩ = some (.int .i64 a3_1) := hS_
         refine norm_ (a' := ?_) ?_ ?_
         rotate_left
         ·simp only [putAll, Act.put, lstS, lstZ, lstC]
          rfl
         refine on_ HT_ 2 (some 124) (bv_ 16 4143) (fun K hK => ?_)
         refine gs_ Try.func61 #[.slice A1 l1.length c1] ?_
         with_reducible refine (laws_toMatrixS.calls k _ _ l1 t581 _ ?side1 ?side2 A41.out).mono ?_
         (case side1 => exact ca_ (Kd.C_below HR1.out HB.out))
         (case side2 => exact HC1.out)
         rintro e w95 ⟨v582, rfl, ho0, hb⟩
         refine ⟨_, rfl, ?_⟩
         have HO583 := Aside0.mk (Kd.R_lower (Kd.R_new' (Kd.R_new' (Kd.R_new' ho0 (Kd.R_lt (ra_ HO535.out))) (Kd.R_lt (ra_ HO550.out))) (Kd.R_lt (ra_ HO567.out))) (below_size (bw_ HB).out))
         replace HO535 := Aside0.mk (Kd.R_elder' (ra_ HO535.out) (Kd.R_base ho0) hb)
         replace HO538 := rb_ HO538 hb
         replace HO543 := rb_ HO543 hb
         replace HO550 := Aside0.mk (Kd.R_elder' (ra_ HO550.out) (Kd.R_base ho0) hb)
         replace HO553 := rb_ HO553 hb
         replace HO558 := rb_ HO558 hb
         replace HO567 := Aside0.mk (Kd.R_elder' (ra_ HO567.out) (Kd.R_base ho0) hb)
         replace HO571 := rb_ HO571 hb
         replace BK530 := bb_ BK530 hb
         replace BK547 := bb_ BK547 hb
         replace BK562 := bb_ BK562 hb
         replace BK595 := bb_ BK595 hb
         replace HB := bt_ HB hb
         try clear hb
         (try clear ho0)
         refine hK.out _ _ ⟨cz_ BK530 0, cz_ BK530 1⟩ (fun hHeld => ?_)
         clear hK K
         refine nm_ (some 124) ?_
         exact norm_ (by first | (simp only [putAll, Act.put, lstS, lstZ, lstC]; done) | (simp only [putAll, Act.put, lstS, lstZ, lstC]; rfl)) (hJ2_12 (v582, gb595) _ ⟨hHeld, (by (with_reducible repeat (first | apply Kd.R_alloc | apply Kd.R_drewN | apply Kd.R_drew)); exact Kd.R_mono HO535.out (fun _ hk => ⟨hk.1.1, ⟨hk.1.2, hk.2⟩⟩)), (ra_ HO538.out), (ra_ HO543.out), (by (with_reducible repeat (first | apply Kd.R_alloc | apply Kd.R_drewN | apply Kd.R_drew)); exact Kd.R_mono HO550.out (fun _ hk => ⟨hk.1.1, ⟨hk.1.2, hk.2⟩⟩)), (ra_ HO553.out), (ra_ HO558.out), (by (with_reducible repeat (first | apply Kd.R_alloc | apply Kd.R_drewN | apply Kd.R_drew)); exact Kd.R_mono HO567.out (fun _ hk => ⟨hk.1.1, ⟨hk.1.2, hk.2⟩⟩)), (ra_ HO571.out), (by (with_reducible repeat (first | apply Kd.R_alloc | apply Kd.R_drewN | apply Kd.R_drew)); exact Kd.R_mono HO583.out (fun _ hk => ⟨hk.1.1.2, ⟨hk.1.2, hk.2⟩⟩)), (bl_ BK530).out, (bl_ BK547).out, (bl_ BK562).out, (bl_ BK595).out, GW595.out, GW595.out, NB530_595.out, NB595_530.out, NB547_595.out, NB595_547.out, NB562_595.out, NB595_562.out, (bw_ HB).out⟩)
        skip
        rintro v582 w94 ⟨hS_, h0_, h1_, h2_, h3_, h4_, h5_, h6_, h7_, h8_, h9_, h10_, h11_, h12_⟩
        clear HO535 HO538 HO543 HO550 HO553 HO558 HO567 HO571 BK530 BK547 BK562 HB
        have HO535 := Aside0.mk h0_
        have HO538 := Aside0.mk h1_
        have HO543 := Aside0.mk h2_
        have HO550 := Aside0.mk h3_
        have HO553 := Aside0.mk h4_
        have HO558 := Aside0.mk h5_
        have HO567 := Aside0.mk h6_
        have HO571 := Aside0.mk h7_
        have HO583 := Aside0.mk h8_
        have BK530 := Aside0.mk h9_
        have BK547 := Aside0.mk h10_
        have BK562 := Aside0.mk h11_
        have HB := Aside0.mk h12_
        clear h0_ h1_ h2_ h3_ h4_ h5_ h6_ h7_ h8_ h9_ h10_ h11_ h12_
        have hHeld : w94.cell? ⟨gb530, 0, none⟩ = some (.int .i64 a3_0) ∧ w94.cell? ⟨gb530, 1, none⟩ = some (.int .i64 a3_1) := hS_
        refine norm_ (a' := ?_) ?_ ?_
        rotate_left
        ·simp only [putAll, Act.put, lstS, lstZ, lstC]
         rfl
        refine tw_ HT_ 4 12 (some 126) (some 22) (bv_ 16 63) (bv_ 16 4143) (fun K hK => ?_) (fun K hK => ?_)
        ·skip
         refine gs_ Try.func62 #[.slice A2 l2.length c2] ?_
         with_reducible refine (laws_toSideS.calls k _ _ l2 t584 _ ?side1 ?side2 A42.out).mono ?_
         (case side1 => exact ca_ (Kd.C_below HR2.out HB.out))
         (case side2 => exact HC2.out)
         rintro e w95 ⟨v585, rfl, ho0, hb⟩
         refine ⟨_, rfl, ?_⟩
         have HO586 := Aside0.mk (Kd.R_lower (Kd.R_new' (Kd.R_new' (Kd.R_new' ho0 (Kd.R_lt (ra_ HO538.out))) (Kd.R_lt (ra_ HO553.out))) (Kd.R_lt (ra_ HO571.out))) (below_size (bw_ HB).out))
         replace HO535 := rb_ HO535 hb
         replace HO538 := Aside0.mk (Kd.R_elder' (ra_ HO538.out) (Kd.R_base ho0) hb)
         replace HO543 := rb_ HO543 hb
         replace HO550 := rb_ HO550 hb
         replace HO553 := Aside0.mk (Kd.R_elder' (ra_ HO553.out) (Kd.R_base ho0) hb)
         replace HO558 := rb_ HO558 hb
         replace HO567 := rb_ HO567 hb
         replace HO571 := Aside0.mk (Kd.R_elder' (ra_ HO571.out) (Kd.R_base ho0) hb)
         replace HO583 := rb_ HO583 hb
         replace BK530 := bb_ BK530 hb
         replace BK547 := bb_ BK547 hb
         replace BK562 := bb_ BK562 hb
         replace HB := bt_ HB hb
         try clear hb
         (try clear ho0)
         refine hK.out _ _ ⟨cz_ BK530 0, cz_ BK530 1⟩ (fun hHeld => ?_)
         clear hK K
         refine nm_ (some 126) ?_
         exact norm_ (by first | (simp only [putAll, Act.put, lstS, lstZ, lstC]; done) | (simp only [putAll, Act.put, lstS, lstZ, lstC]; rfl)) (hJ2_4 (v582, v585) _ ⟨hHeld, (ra_ HO535.out), (by (with_reducible repeat (first | apply Kd.R_alloc | apply Kd.R_drewN | apply Kd.R_drew)); exact Kd.R_mono HO538.out (fun _ hk => ⟨hk.1.1, ⟨hk.1.2, hk.2⟩⟩)), (ra_ HO543.out), (ra_ HO550.out), (by (with_reducible repeat (first | apply Kd.R_alloc | apply Kd.R_drewN | apply Kd.R_drew)); exact Kd.R_mono HO553.out (fun _ hk => ⟨hk.1.1, ⟨hk.1.2, hk.2⟩⟩)), (ra_ HO558.out), (ra_ HO567.out), (by (with_reducible repeat (first | apply Kd.R_alloc | apply Kd.R_drewN | apply Kd.R_drew)); exact Kd.R_mono HO571.out (fun _ hk => ⟨hk.1.1, ⟨hk.1.2, hk.2⟩⟩)), (ra_ HO583.out), (by (with_reducible repeat (first | apply Kd.R_alloc | apply Kd.R_drewN | apply Kd.R_drew)); exact Kd.R_mono HO586.out (fun _ hk => ⟨hk.1.1.2, ⟨hk.1.2, hk.2⟩⟩)), (bl_ BK530).out, (bl_ BK547).out, (bl_ BK562).out, (bw_ HB).out⟩)
        skip
        refine bz_ 22 #[.int .i64 0, .int .i64 0] 74 ?_
        intro gb595 hg w95 BK595 hb
        have GW595 := bs_ HB hg
        have NB530_595 := bm_ BK530 hg
        have NB595_530 := bn_ BK530 hg
        have NB547_595 := bm_ BK547 hg
        have NB595_547 := bn_ BK547 hg
        have NB562_595 := bm_ BK562 hg
        have NB595_562 := bn_ BK562 hg
        replace HO535 := rb_ HO535 hb
        replace HO538 := rb_ HO538 hb
        replace HO543 := rb_ HO543 hb
        replace HO550 := rb_ HO550 hb
        replace HO553 := rb_ HO553 hb
        replace HO558 := rb_ HO558 hb
        replace HO567 := rb_ HO567 hb
        replace HO571 := rb_ HO571 hb
        replace HO583 := rb_ HO583 hb
        replace BK530 := bb_ BK530 hb
        replace BK547 := bb_ BK547 hb
        replace BK562 := bb_ BK562 hb
        replace HB := bt_ HB hb
        clear hb hg
        refine hK.out _ _ ⟨cz_ BK530 0, cz_ BK530 1⟩ (fun hHeld => ?_)
        clear hK K
        refine nm_ (some 22) ?_
        exact norm_ (by first | (simp only [putAll, Act.put, lstS, lstZ, lstC]; done) | (simp only [putAll, Act.put, lstS, lstZ, lstC]; rfl)) (hJ2_12 (v582, gb595) _ ⟨hHeld, (ra_ HO535.out), (ra_ HO538.out), (ra_ HO543.out), (ra_ HO550.out), (ra_ HO553.out), (ra_ HO558.out), (ra_ HO567.out), (ra_ HO571.out), (ra_ HO583.out), (bl_ BK530).out, (bl_ BK547).out, (bl_ BK562).out, (bl_ BK595).out, GW595.out, GW595.out, NB530_595.out, NB595_530.out, NB547_595.out, NB595_547.out, NB562_595.out, NB595_562.out, (bw_ HB).out⟩)
       skip
       rintro ⟨v582, gb595⟩ w95 ⟨hS_, h0_, h1_, h2_, h3_, h4_, h5_, h6_, h7_, h8_, h9_, h10_, h11_, h12_, h13_, h14_, h15_, h16_, h17_, h18_, h19_, h20_, h21_⟩
       clear HO535 HO538 HO543 HO550 HO553 HO558 HO567 HO571 BK530 BK547 BK562 HB
       have HO535 := Aside0.mk h0_
       have HO538 := Aside0.mk h1_
       have HO543 := Aside0.mk h2_
       have HO550 := Aside0.mk h3_
       have HO553 := Aside0.mk h4_
       have HO558 := Aside0.mk h5_
       have HO567 := Aside0.mk h6_
       have HO571 := Aside0.mk h7_
       have HO583 := Aside0.mk h8_
       have BK530 := Aside0.mk h9_
       have BK547 := Aside0.mk h10_
       have BK562 := Aside0.mk h11_
       have BK595 := Aside0.mk h12_
       have GW595 := Aside0.mk h13_
       have GW595 := Aside0.mk h14_
       have NB530_595 := Aside0.mk h15_
       have NB595_530 := Aside0.mk h16_
       have NB547_595 := Aside0.mk h17_
       have NB595_547 := Aside0.mk h18_
       have NB562_595 := Aside0.mk h19_
       have NB595_562 := Aside0.mk h20_
       have HB := Aside0.mk h21_
       clear h0_ h1_ h2_ h3_ h4_ h5_ h6_ h7_ h8_ h9_ h10_ h11_ h12_ h13_ h14_ h15_ h16_ h17_ h18_ h19_ h20_ h21_
       have hHeld : w95.cell? ⟨gb530, 0, none⟩ = some (.int .i64 a3_0) ∧ w95.cell? ⟨gb530, 1, none⟩ = some (.int .i64 a3_1) := hS_
       refine norm_ (a' := ?_) ?_ ?_
       rotate_left
       ·simp only [putAll, Act.put, lstS, lstZ, lstC]
        rfl
       refine on_ HT_ 4 (some 126) (bv_ 16 4159) (fun K hK => ?_)
       refine gs_ Try.func62 #[.slice A2 l2.length c2] ?_
       with_reducible refine (laws_toSideS.calls k _ _ l2 t584 _ ?side1 ?side2 A42.out).mono ?_
       (case side1 => exact ca_ (Kd.C_below HR2.out HB.out))
       (case side2 => exact HC2.out)
       rintro e w96 ⟨v585, rfl, ho0, hb⟩
       refine ⟨_, rfl, ?_⟩
       have HO586 := Aside0.mk (Kd.R_lower (Kd.R_new' (Kd.R_new' (Kd.R_new' ho0 (Kd.R_lt (ra_ HO538.out))) (Kd.R_lt (ra_ HO553.out))) (Kd.R_lt (ra_ HO571.out))) (below_size (bw_ HB).out))
       replace HO535 := rb_ HO535 hb
       replace HO538 := Aside0.mk (Kd.R_elder' (ra_ HO538.out) (Kd.R_base ho0) hb)
       replace HO543 := rb_ HO543 hb
       replace HO550 := rb_ HO550 hb
       replace HO553 := Aside0.mk (Kd.R_elder' (ra_ HO553.out) (Kd.R_base ho0) hb)
       replace HO558 := rb_ HO558 hb
       replace HO567 := rb_ HO567 hb
       replace HO571 := Aside0.mk (Kd.R_elder' (ra_ HO571.out) (Kd.R_base ho0) hb)
       replace HO583 := rb_ HO583 hb
       replace BK530 := bb_ BK530 hb
       replace BK547 := bb_ BK547 hb
       replace BK562 := bb_ BK562 hb
       replace BK595 := bb_ BK595 hb
       replace HB := bt_ HB hb
       try clear hb
       (try clear ho0)
       refine hK.out _ _ ⟨cz_ BK530 0, cz_ BK530 1⟩ (fun hHeld => ?_)
       clear hK K
       refine nm_ (some 126) ?_
       exact norm_ (by first | (simp only [putAll, Act.put, lstS, lstZ, lstC]; done) | (simp only [putAll, Act.put, lstS, lstZ, lstC]; rfl)) (hJ2_4_12 (v582, v585, gb595) _ ⟨hHeld, (ra_ HO535.out), (by (with_reducible repeat (first | apply Kd.R_alloc | apply Kd.R_drewN | apply Kd.R_drew)); exact Kd.R_mono HO538.out (fun _ hk => ⟨hk.1.1, ⟨hk.1.2, hk.2⟩⟩)), (ra_ HO543.out), (ra_ HO550.out), (by (with_reducible repeat (first | apply Kd.R_alloc | apply Kd.R_drewN | apply Kd.R_drew)); exact Kd.R_mono HO553.out (fun _ hk => ⟨hk.1.1, ⟨hk.1.2, hk.2⟩⟩)), (ra_ HO558.out), (ra_ HO567.out), (by (with_reducible repeat (first | apply Kd.R_alloc | apply Kd.R_drewN | apply Kd.R_drew)); exact Kd.R_mono HO571.out (fun _ hk => ⟨hk.1.1, ⟨hk.1.2, hk.2⟩⟩)), (ra_ HO583.out), (by (with_reducible repeat (first | apply Kd.R_alloc | apply Kd.R_drewN | apply Kd.R_drew)); exact Kd.R_mono HO586.out (fun _ hk => ⟨hk.1.1.2, ⟨hk.1.2, hk.2⟩⟩)), (bl_ BK530).out, (bl_ BK547).out, (bl_ BK562).out, (bl_ BK595).out, GW595.out, GW595.out, NB530_595.out, NB595_530.out, NB547_595.out, NB595_547.out, NB562_595.out, NB595_562.out, (bw_ HB).out⟩)
      skip
      rintro ⟨v582, v585⟩ w95 ⟨hS_, h0_, h1_, h2_, h3_, h4_, h5_, h6_, h7_, h8_, h9_, h10_, h11_, h12_, h13_⟩
      clear HO535 HO538 HO543 HO550 HO553 HO558 HO567 HO571 BK530 BK547 BK562 HB
      have HO535 := Aside0.mk h0_
      have HO538 := Aside0.mk h1_
      have HO543 := Aside0.mk h2_
      have HO550 := Aside0.mk h3_
      have HO553 := Aside0.mk h4_
      have HO558 := Aside0.mk h5_
      have HO567 := Aside0.mk h6_
      have HO571 := Aside0.mk h7_
      have HO583 := Aside0.mk h8_
      have HO586 := Aside0.mk h9_
      have BK530 := Aside0.mk h10_
      have BK547 := Aside0.mk h11_
      have BK562 := Aside0.mk h12_
      have HB := Aside0.mk h13_
      clear h0_ h1_ h2_ h3_ h4_ h5_ h6_ h7_ h8_ h9_ h10_ h11_ h12_ h13_
      have hHeld : w95.cell? ⟨gb530, 0, none⟩ = some (.int .i64 a3_0) ∧ w95.cell? ⟨gb530, 1, none⟩ = some (.int .i64 a3_1) := hS_
      refine norm_ (a' := ?_) ?_ ?_
      rotate_left
      ·simp only [putAll, Act.put, lstS, lstZ, lstC]
       rfl
      refine tw_ HT_ 6 12 (some 128) (some 22) (bv_ 16 127) (bv_ 16 4159) (fun K hK => ?_) (fun K hK => ?_)
      ·skip
       refine gs_ Try.func63 #[.agg #[.int .i64 a3_0, .int .i64 a3_1]] ?_
       with_reducible refine (laws_toEnd.calls a3_0 a3_1 t587 t588 _ A43.out).mono ?_
       rintro e w96 ⟨rfl, hb⟩
       refine ⟨_, rfl, ?_⟩
       replace HO535 := rb_ HO535 hb
       replace HO538 := rb_ HO538 hb
       replace HO543 := rb_ HO543 hb
       replace HO550 := rb_ HO550 hb
       replace HO553 := rb_ HO553 hb
       replace HO558 := rb_ HO558 hb
       replace HO567 := rb_ HO567 hb
       replace HO571 := rb_ HO571 hb
       replace HO583 := rb_ HO583 hb
       replace HO586 := rb_ HO586 hb
       replace BK530 := bb_ BK530 hb
       replace BK547 := bb_ BK547 hb
       replace BK562 := bb_ BK562 hb
       replace HB := bt_ HB hb
       try clear hb
       refine hK.out _ _ ⟨cz_ BK530 0, cz_ BK530 1⟩ (fun hHeld => ?_)
       clear hK K
       refine nm_ (some 128) ?_
       exact norm_ (by first | (simp only [putAll, Act.put, lstS, lstZ, lstC]; done) | (simp only [putAll, Act.put, lstS, lstZ, lstC]; rfl)) (hJ2_4_6 (v582, v585) _ ⟨hHeld, (ra_ HO535.out), (ra_ HO538.out), (ra_ HO543.out), (ra_ HO550.out), (ra_ HO553.out), (ra_ HO558.out), (ra_ HO567.out), (ra_ HO571.out), (ra_ HO583.out), (ra_ HO586.out), (bl_ BK530).out, (bl_ BK547).out, (bl_ BK562).out, (bw_ HB).out⟩)
      skip
      refine bz_ 22 #[.int .i64 0, .int .i64 0] 74 ?_
      intro gb595 hg w96 BK595 hb
      have GW595 := bs_ HB hg
      have NB530_595 := bm_ BK530 hg
      have NB595_530 := bn_ BK530 hg
      have NB547_595 := bm_ BK547 hg
      have NB595_547 := bn_ BK547 hg
      have NB562_595 := bm_ BK562 hg
      have NB595_562 := bn_ BK562 hg
      replace HO535 := rb_ HO535 hb
      replace HO538 := rb_ HO538 hb
      replace HO543 := rb_ HO543 hb
      replace HO550 := rb_ HO550 hb
      replace HO553 := rb_ HO553 hb
      replace HO558 := rb_ HO558 hb
      replace HO567 := rb_ HO567 hb
      replace HO571 := rb_ HO571 hb
      replace HO583 := rb_ HO583 hb
      replace HO586 := rb_ HO586 hb
      replace BK530 := bb_ BK530 hb
      replace BK547 := bb_ BK547 hb
      replace BK562 := bb_ BK562 hb
      replace HB := bt_ HB hb
      clear hb hg
      refine hK.out _ _ ⟨cz_ BK530 0, cz_ BK530 1⟩ (fun hHeld => ?_)
      clear hK K
      refine nm_ (some 22) ?_
      exact norm_ (by first | (simp only [putAll, Act.put, lstS, lstZ, lstC]; done) | (simp only [putAll, Act.put, lstS, lstZ, lstC]; rfl)) (hJ2_4_12 (v582, v585, gb595) _ ⟨hHeld, (ra_ HO535.out), (ra_ HO538.out), (ra_ HO543.out), (ra_ HO550.out), (ra_ HO553.out), (ra_ HO558.out), (ra_ HO567.out), (ra_ HO571.out), (ra_ HO583.out), (ra_ HO586.out), (bl_ BK530).out, (bl_ BK547).out, (bl_ BK562).out, (bl_ BK595).out, GW595.out, GW595.out, NB530_595.out, NB595_530.out, NB547_595.out, NB595_547.out, NB562_595.out, NB595_562.out, (bw_ HB).out⟩)
     skip
     rintro ⟨v582, v585, gb595⟩ w96 ⟨hS_, h0_, h1_, h2_, h3_, h4_, h5_, h6_, h7_, h8_, h9_, h10_, h11_, h12_, h13_, h14_, h15_, h16_, h17_, h18_, h19_, h20_, h21_, h22_⟩
     clear HO535 HO538 HO543 HO550 HO553 HO558 HO567 HO571 BK530 BK547 BK562 HB
     have HO535 := Aside0.mk h0_
     have HO538 := Aside0.mk h1_
     have HO543 := Aside0.mk h2_
     have HO550 := Aside0.mk h3_
     have HO553 := Aside0.mk h4_
     have HO558 := Aside0.mk h5_
     have HO567 := Aside0.mk h6_
     have HO571 := Aside0.mk h7_
     have HO583 := Aside0.mk h8_
     have HO586 := Aside0.mk h9_
     have BK530 := Aside0.mk h10_
     have BK547 := Aside0.mk h11_
     have BK562 := Aside0.mk h12_
     have BK595 := Aside0.mk h13_
     have GW595 := Aside0.mk h14_
     have GW595 := Aside0.mk h15_
     have NB530_595 := Aside0.mk h16_
     have NB595_530 := Aside0.mk h17_
     have NB547_595 := Aside0.mk h18_
     have NB595_547 := Aside0.mk h19_
     have NB562_595 := Aside0.mk h20_
     have NB595_562 := Aside0.mk h21_
     have HB := Aside0.mk h22_
     clear h0_ h1_ h2_ h3_ h4_ h5_ h6_ h7_ h8_ h9_ h10_ h11_ h12_ h13_ h14_ h15_ h16_ h17_ h18_ h19_ h20_ h21_ h22_
     have hHeld : w96.cell? ⟨gb530, 0, none⟩ = some (.int .i64 a3_0) ∧ w96.cell? ⟨gb530, 1, none⟩ = some (.int .i64 a3_1) := hS_
     refine norm_ (a' := ?_) ?_ ?_
     rotate_left
     ·simp only [putAll, Act.put, lstS, lstZ, lstC]
      rfl
     refine on_ HT_ 6 (some 128) (bv_ 16 4223) (fun K hK => ?_)
     refine gs_ Try.func63 #[.agg #[.int .i64 a3_0, .int .i64 a3_1]] ?_
     with_reducible refine (laws_toEnd.calls a3_0 a3_1 t587 t588 _ A43.out).mono ?_
     rintro e w97 ⟨rfl, hb⟩
     refine ⟨_, rfl, ?_⟩
     replace HO535 := rb_ HO535 hb
     replace HO538 := rb_ HO538 hb
     replace HO543 := rb_ HO543 hb
     replace HO550 := rb_ HO550 hb
     replace HO553 := rb_ HO553 hb
     replace HO558 := rb_ HO558 hb
     replace HO567 := rb_ HO567 hb
     replace HO571 := rb_ HO571 hb
     replace HO583 := rb_ HO583 hb
     replace HO586 := rb_ HO586 hb
     replace BK530 := bb_ BK530 hb
     replace BK547 := bb_ BK547 hb
     replace BK562 := bb_ BK562 hb
     replace BK595 := bb_ BK595 hb
     replace HB := bt_ HB hb
     try clear hb
     refine hK.out _ _ ⟨cz_ BK530 0, cz_ BK530 1⟩ (fun hHeld => ?_)
     clear hK K
     refine nm_ (some 128) ?_
     exact norm_ (by first | (simp only [putAll, Act.put, lstS, lstZ, lstC]; done) | (simp only [putAll, Act.put, lstS, lstZ, lstC]; rfl)) (hJ2_4_6_12 (v582, v585, gb595) _ ⟨hHeld, (ra_ HO535.out), (ra_ HO538.out), (ra_ HO543.out), (ra_ HO550.out), (ra_ HO553.out), (ra_ HO558.out), (ra_ HO567.out), (ra_ HO571.out), (ra_ HO583.out), (ra_ HO586.out), (bl_ BK530).out, (bl_ BK547).out, (bl_ BK562).out, (bl_ BK595).out, GW595.out, GW595.out, NB530_595.out, NB595_530.out, NB547_595.out, NB595_547.out, NB562_595.out, NB595_562.out, (bw_ HB).out⟩)
    skip
    rintro ⟨v582, v585⟩ w96 ⟨hS_, h0_, h1_, h2_, h3_, h4_, h5_, h6_, h7_, h8_, h9_, h10_, h11_, h12_, h13_⟩
    clear HO535 HO538 HO543 HO550 HO553 HO558 HO567 HO571 BK530 BK547 BK562 HB
    have HO535 := Aside0.mk h0_
    have HO538 := Aside0.mk h1_
    have HO543 := Aside0.mk h2_
    have HO550 := Aside0.mk h3_
    have HO553 := Aside0.mk h4_
    have HO558 := Aside0.mk h5_
    have HO567 := Aside0.mk h6_
    have HO571 := Aside0.mk h7_
    have HO583 := Aside0.mk h8_
    have HO586 := Aside0.mk h9_
    have BK530 := Aside0.mk h10_
    have BK547 := Aside0.mk h11_
    have BK562 := Aside0.mk h12_
    have HB := Aside0.mk h13_
    clear h0_ h1_ h2_ h3_ h4_ h5_ h6_ h7_ h8_ h9_ h10_ h11_ h12_ h13_
    have hHeld : w96.cell? ⟨gb530, 0, none⟩ = some (.int .i64 a3_0) ∧ w96.cell? ⟨gb530, 1, none⟩ = some (.int .i64 a3_1) := hS_
    obtain ⟨Ao97, co97, eo97⟩ := Kd.R_slice HO583.out
    (first | subst eo97 | (injection eo97 with f1_ f2_ f3_; have f4_ := f1_.symm; have f5_ := f3_.symm; clear f1_ f2_ f3_; subst f4_; subst f5_))
    obtain ⟨Ao98, co98, eo98⟩ := Kd.R_slice HO586.out
    (first | subst eo98 | (injection eo98 with f1_ f2_ f3_; have f4_ := f1_.symm; have f5_ := f3_.symm; clear f1_ f2_ f3_; subst f4_; subst f5_))
    refine norm_ (a' := ?_) ?_ ?_
    rotate_left
    ·simp only [putAll, Act.put, lstS, lstZ, lstC]
     rfl
    refine tw_ HT_ 7 12 (some 129) (some 22) (bv_ 16 255) (bv_ 16 4223) (fun K hK => ?_) (fun K hK => ?_)
    ·skip
     refine gs_ Try.func64 #[.int .i64 a0, .slice Ao97 t581.length co97, .slice Ao98 t584.length co98, .agg #[.int .i64 t587, .int .i64 t588]] ?_
     with_reducible refine (impl_BringOut.calls k a0 _ _ t581 _ _ t584 t587 t588 t589 t592 t593 t594 _ ?side1 ?side2 ?side3 ?side4 A44.out).mono ?_
     (case side1 => exact ca_ (Kd.R_reads' HO583.out).2.2)
     (case side2 => exact (Kd.R_reads' HO583.out).2.1)
     (case side3 => exact ca_ (Kd.R_reads' HO586.out).2.2)
     (case side4 => exact (Kd.R_reads' HO586.out).2.1)
     rintro e w99 ⟨v590, rfl, ho0, hb⟩
     refine ⟨_, rfl, ?_⟩
     have HO591 := Aside0.mk (Kd.R_lower (Kd.R_new' (Kd.R_new' ho0 (Kd.R_lt (ra_ HO543.out))) (Kd.R_lt (ra_ HO558.out))) (below_size (bw_ HB).out))
     replace HO535 := rb_ HO535 hb
     replace HO538 := rb_ HO538 hb
     replace HO543 := Aside0.mk (Kd.R_elder' (ra_ HO543.out) (Kd.R_base ho0) hb)
     replace HO550 := rb_ HO550 hb
     replace HO553 := rb_ HO553 hb
     replace HO558 := Aside0.mk (Kd.R_elder' (ra_ HO558.out) (Kd.R_base ho0) hb)
     replace HO567 := rb_ HO567 hb
     replace HO571 := rb_ HO571 hb
     replace HO583 := rb_ HO583 hb
     replace HO586 := rb_ HO586 hb
     replace BK530 := bb_ BK530 hb
     replace BK547 := bb_ BK547 hb
     replace BK562 := bb_ BK562 hb
     replace HB := bt_ HB hb
     try clear hb
     (try clear ho0)
     refine hK.out _ _ ⟨cz_ BK530 0, cz_ BK530 1⟩ (fun hHeld => ?_)
     clear hK K
     refine nm_ (some 129) ?_
     refine px_ HT_ 8 121 511 ?_
     refine px_ HT_ 9 130 1023 ?_
     refine px_ HT_ 10 131 2047 ?_
     refine px_ HT_ 11 132 4095 ?_
     exact norm_ (by first | (simp only [putAll, Act.put, lstS, lstZ, lstC]; done) | (simp only [putAll, Act.put, lstS, lstZ, lstC]; rfl)) (hJ2_4_6_7 (.slice Ao97 t581.length co97, .slice Ao98 t584.length co98, v590) _ ⟨hHeld, (ra_ HO535.out), (ra_ HO538.out), (ra_ HO543.out), (ra_ HO550.out), (ra_ HO553.out), (ra_ HO558.out), (ra_ HO567.out), (ra_ HO571.out), (ra_ HO583.out), (ra_ HO586.out), (by (with_reducible repeat (first | apply Kd.R_alloc | apply Kd.R_drewN | apply Kd.R_drew)); exact Kd.R_mono HO591.out (fun _ hk => ⟨hk.1.2, hk.2⟩)), (bl_ BK530).out, (bl_ BK547).out, (bl_ BK562).out, (bw_ HB).out⟩)
    skip
    refine bz_ 22 #[.int .i64 0, .int .i64 0] 74 ?_
    intro gb595 hg w97 BK595 hb
    have GW595 := bs_ HB hg
    have NB530_595 := bm_ BK530 hg
    have NB595_530 := bn_ BK530 hg
    have NB547_595 := bm_ BK547 hg
    have NB595_547 := bn_ BK547 hg
    have NB562_595 := bm_ BK562 hg
    have NB595_562 := bn_ BK562 hg
    replace HO535 := rb_ HO535 hb
    replace HO538 := rb_ HO538 hb
    replace HO543 := rb_ HO543 hb
    replace HO550 := rb_ HO550 hb
    replace HO553 := rb_ HO553 hb
    replace HO558 := rb_ HO558 hb
    replace HO567 := rb_ HO567 hb
    replace HO571 := rb_ HO571 hb
    replace HO583 := rb_ HO583 hb
    replace HO586 := rb_ HO586 hb
    replace BK530 := bb_ BK530 hb
    replace BK547 := bb_ BK547 hb
    replace BK562 := bb_ BK562 hb
    replace HB := bt_ HB hb
    clear hb hg
    refine hK.out _ _ ⟨cz_ BK530 0, cz_ BK530 1⟩ (fun hHeld => ?_)
    clear hK K
    refine nm_ (some 22) ?_
    exact norm_ (by first | (simp only [putAll, Act.put, lstS, lstZ, lstC]; done) | (simp only [putAll, Act.put, lstS, lstZ, lstC]; rfl)) (hJ2_4_6_12 (.slice Ao97 t581.length co97, .slice Ao98 t584.length co98, gb595) _ ⟨hHeld, (ra_ HO535.out), (ra_ HO538.out), (ra_ HO543.out), (ra_ HO550.out), (ra_ HO553.out), (ra_ HO558.out), (ra_ HO567.out), (ra_ HO571.out), (ra_ HO583.out), (ra_ HO586.out), (bl_ BK530).out, (bl_ BK547).out, (bl_ BK562).out, (bl_ BK595).out, GW595.out, GW595.out, NB530_595.out, NB595_530.out, NB547_595.out, NB595_547.out, NB562_595.out, NB595_562.out, (bw_ HB).out⟩)
   skip
   rintro ⟨v582, v585, gb595⟩ w97 ⟨hS_, h0_, h1_, h2_, h3_, h4_, h5_, h6_, h7_, h8_, h9_, h10_, h11_, h12_, h13_, h14_, h15_, h16_, h17_, h18_, h19_, h20_, h21_, h22_⟩
   clear HO535 HO538 HO543 HO550 HO553 HO558 HO567 HO571 BK530 BK547 BK562 HB
   have HO535 := Aside0.mk h0_
   have HO538 := Aside0.mk h1_
   have HO543 := Aside0.mk h2_
   have HO550 := Aside0.mk h3_
   have HO553 := Aside0.mk h4_
   have HO558 := Aside0.mk h5_
   have HO567 := Aside0.mk h6_
   have HO571 := Aside0.mk h7_
   have HO583 := Aside0.mk h8_
   have HO586 := Aside0.mk h9_
   have BK530 := Aside0.mk h10_
   have BK547 := Aside0.mk h11_
   have BK562 := Aside0.mk h12_
   have BK595 := Aside0.mk h13_
   have GW595 := Aside0.mk h14_
   have GW595 := Aside0.mk h15_
   have NB530_595 := Aside0.mk h16_
   have NB595_530 := Aside0.mk h17_
   have NB547_595 := Aside0.mk h18_
   have NB595_547 := Aside0.mk h19_
   have NB562_595 := Aside0.mk h20_
   have NB595_562 := Aside0.mk h21_
   have HB := Aside0.mk h22_
   clear h0_ h1_ h2_ h3_ h4_ h5_ h6_ h7_ h8_ h9_ h10_ h11_ h12_ h13_ h14_ h15_ h16_ h17_ h18_ h19_ h20_ h21_ h22_
   have hHeld : w97.cell? ⟨gb530, 0, none⟩ = some (.int .i64 a3_0) ∧ w97.cell? ⟨gb530, 1, none⟩ = some (.int .i64 a3_1) := hS_
   obtain ⟨Ao98, co98, eo98⟩ := Kd.R_slice HO583.out
   (first | subst eo98 | (injection eo98 with f1_ f2_ f3_; have f4_ := f1_.symm; have f5_ := f3_.symm; clear f1_ f2_ f3_; subst f4_; subst f5_))
   obtain ⟨Ao99, co99, eo99⟩ := Kd.R_slice HO586.out
   (first | subst eo99 | (injection eo99 with f1_ f2_ f3_; have f4_ := f1_.symm; have f5_ := f3_.symm; clear f1_ f2_ f3_; subst f4_; subst f5_))
   refine norm_ (a' := ?_) ?_ ?_
   rotate_left
   ·simp only [putAll, Act.put, lstS, lstZ, lstC]
    rfl
   refine on_ HT_ 7 (some 129) (bv_ 16 4351) (fun K hK => ?_)
   refine gs_ Try.func64 #[.int .i64 a0, .slice Ao98 t581.length co98, .slice Ao99 t584.length co99, .agg #[.int .i64 t587, .int .i64 t588]] ?_
   with_reducible refine (impl_BringOut.calls k a0 _ _ t581 _ _ t584 t587 t588 t589 t592 t593 t594 _ ?side1 ?side2 ?side3 ?side4 A44.out).mono ?_
   (case side1 => exact ca_ (Kd.R_reads' HO583.out).2.2)
   (case side2 => exact (Kd.R_reads' HO583.out).2.1)
   (case side3 => exact ca_ (Kd.R_reads' HO586.out).2.2)
   (case side4 => exact (Kd.R_reads' HO586.out).2.1)
   rintro e w100 ⟨v590, rfl, ho0, hb⟩
   refine ⟨_, rfl, ?_⟩
   have HO591 := Aside0.mk (Kd.R_lower (Kd.R_new' (Kd.R_new' ho0 (Kd.R_lt (ra_ HO543.out))) (Kd.R_lt (ra_ HO558.out))) (below_size (bw_ HB).out))
   replace HO535 := rb_ HO535 hb
   replace HO538 := rb_ HO538 hb
   replace HO543 := Aside0.mk (Kd.R_elder' (ra_ HO543.out) (Kd.R_base ho0) hb)
   replace HO550 := rb_ HO550 hb
   replace HO553 := rb_ HO553 hb
   replace HO558 := Aside0.mk (Kd.R_elder' (ra_ HO558.out) (Kd.R_base ho0) hb)
   replace HO567 := rb_ HO567 hb
   replace HO571 := rb_ HO571 hb
   replace HO583 := rb_ HO583 hb
   replace HO586 := rb_ HO586 hb
   replace BK530 := bb_ BK530 hb
   replace BK547 := bb_ BK547 hb
   replace BK562 := bb_ BK562 hb
   replace BK595 := bb_ BK595 hb
   replace HB := bt_ HB hb
   try clear hb
   (try clear ho0)
   refine hK.out _ _ ⟨cz_ BK530 0, cz_ BK530 1⟩ (fun hHeld => ?_)
   clear hK K
   refine nm_ (some 129) ?_
   refine px_ HT_ 8 121 4607 ?_
   refine px_ HT_ 9 130 5119 ?_
   refine px_ HT_ 10 131 6143 ?_
   refine px_ HT_ 11 132 8191 ?_
   exact norm_ (by first | (simp only [putAll, Act.put, lstS, lstZ, lstC]; done) | (simp only [putAll, Act.put, lstS, lstZ, lstC]; rfl)) (hJ2_4_6_7_12 (.slice Ao98 t581.length co98, .slice Ao99 t584.length co99, v590, gb595) _ ⟨hHeld, (ra_ HO535.out), (ra_ HO538.out), (ra_ HO543.out), (ra_ HO550.out), (ra_ HO553.out), (ra_ HO558.out), (ra_ HO567.out), (ra_ HO571.out), (ra_ HO583.out), (ra_ HO586.out), (by (with_reducible repeat (first | apply Kd.R_alloc | apply Kd.R_drewN | apply Kd.R_drew)); exact Kd.R_mono HO591.out (fun _ hk => ⟨hk.1.2, hk.2⟩)), (bl_ BK530).out, (bl_ BK547).out, (bl_ BK562).out, (bl_ BK595).out, GW595.out, GW595.out, NB530_595.out, NB595_530.out, NB547_595.out, NB595_547.out, NB562_595.out, NB595_562.out, (bw_ HB).out⟩)
  skip
  rintro ⟨v582, v585, v590⟩ w99 ⟨hS_, h0_, h1_, h2_, h3_, h4_, h5_, h6_, h7_, h8_, h9_, h10_, h11_, h12_, h13_, h14_⟩
  clear HO535 HO538 HO543 HO550 HO553 HO558 HO567 HO571 BK530 BK547 BK562 HB
  have HO535 := Aside0.mk h0_
  have HO538 := Aside0.mk h1_
  have HO543 := Aside0.mk h2_
  have HO550 := Aside0.mk h3_
  have HO553 := Aside0.mk h4_
  have HO558 := Aside0.mk h5_
  have HO567 := Aside0.mk h6_
  have HO571 := Aside0.mk h7_
  have HO583 := Aside0.mk h8_
  have HO586 := Aside0.mk h9_
  have HO591 := Aside0.mk h10_
  have BK530 := Aside0.mk h11_
  have BK547 := Aside0.mk h12_
  have BK562 := Aside0.mk h13_
  have HB := Aside0.mk h14_
  clear h0_ h1_ h2_ h3_ h4_ h5_ h6_ h7_ h8_ h9_ h10_ h11_ h12_ h13_ h14_
  have hHeld : w99.cell? ⟨gb530, 0, none⟩ = some (.int .i64 a3_0) ∧ w99.cell? ⟨gb530, 1, none⟩ = some (.int .i64 a3_1) := hS_
  refine norm_ (a' := ?_) ?_ ?_
  rotate_left
  ·simp only [putAll, Act.put, lstS, lstZ, lstC]
   rfl
  refine on_ HT_ 12 (some 22) (bv_ 16 8191) (fun K hK => ?_)
  refine bz_ 22 #[.int .i64 0, .int .i64 0] 74 ?_
  intro gb595 hg w100 BK595 hb
  have GW595 := bs_ HB hg
  have NB530_595 := bm_ BK530 hg
  have NB595_530 := bn_ BK530 hg
  have NB547_595 := bm_ BK547 hg
  have NB595_547 := bn_ BK547 hg
  have NB562_595 := bm_ BK562 hg
  have NB595_562 := bn_ BK562 hg
  replace HO535 := rb_ HO535 hb
  replace HO538 := rb_ HO538 hb
  replace HO543 := rb_ HO543 hb
  replace HO550 := rb_ HO550 hb
  replace HO553 := rb_ HO553 hb
  replace HO558 := rb_ HO558 hb
  replace HO567 := rb_ HO567 hb
  replace HO571 := rb_ HO571 hb
  replace HO583 := rb_ HO583 hb
  replace HO586 := rb_ HO586 hb
  replace HO591 := rb_ HO591 hb
  replace BK530 := bb_ BK530 hb
  replace BK547 := bb_ BK547 hb
  replace BK562 := bb_ BK562 hb
  replace HB := bt_ HB hb
  clear hb hg
  refine hK.out _ _ ⟨cz_ BK530 0, cz_ BK530 1⟩ (fun hHeld => ?_)
  clear hK K
  refine nm_ (some 22) ?_
  exact norm_ (by first | (simp only [putAll, Act.put, lstS, lstZ, lstC]; done) | (simp only [putAll, Act.put, lstS, lstZ, lstC]; rfl)) (hJ2_4_6_7_12 (v582, v585, v590, gb595) _ ⟨hHeld, (ra_ HO535.out), (ra_ HO538.out), (ra_ HO543.out), (ra_ HO550.out), (ra_ HO553.out), (ra_ HO558.out), (ra_ HO567.out), (ra_ HO571.out), (ra_ HO583.out), (ra_ HO586.out), (ra_ HO591.out), (bl_ BK530).out, (bl_ BK547).out, (bl_ BK562).out, (bl_ BK595).out, GW595.out, GW595.out, NB530_595.out, NB595_530.out, NB547_595.out, NB595_547.out, NB562_595.out, NB595_562.out, (bw_ HB).out⟩)
 rintro ⟨v582, v585, v590, gb595⟩ w100 ⟨hS_, h0_, h1_, h2_, h3_, h4_, h5_, h6_, h7_, h8_, h9_, h10_, h11_, h12_, h13_, h14_, h15_, h16_, h17_, h18_, h19_, h20_, h21_, h22_, h23_⟩
 clear HO535 HO538 HO543 HO550 HO553 HO558 HO567 HO571 BK530 BK547 BK562 HB
 have HO535 := Aside0.mk h0_
 have HO538 := Aside0.mk h1_
 have HO543 := Aside0.mk h2_
 have HO550 := Aside0.mk h3_
 have HO553 := Aside0.mk h4_
 have HO558 := Aside0.mk h5_
 have HO567 := Aside0.mk h6_
 have HO571 := Aside0.mk h7_
 have HO583 := Aside0.mk h8_
 have HO586 := Aside0.mk h9_
 have HO591 := Aside0.mk h10_
 have BK530 := Aside0.mk h11_
 have BK547 := Aside0.mk h12_
 have BK562 := Aside0.mk h13_
 have BK595 := Aside0.mk h14_
 have GW595 := Aside0.mk h15_
 have GW595 := Aside0.mk h16_
 have NB530_595 := Aside0.mk h17_
 have NB595_530 := Aside0.mk h18_
 have NB547_595 := Aside0.mk h19_
 have NB595_547 := Aside0.mk h20_
 have NB562_595 := Aside0.mk h21_
 have NB595_562 := Aside0.mk h22_
 have HB := Aside0.mk h23_
 clear h0_ h1_ h2_ h3_ h4_ h5_ h6_ h7_ h8_ h9_ h10_ h11_ h12_ h13_ h14_ h15_ h16_ h17_ h18_ h19_ h20_ h21_ h22_ h23_
 have hHeld : w100.cell? ⟨gb530, 0, none⟩ = some (.int .i64 a3_0) ∧ w100.cell? ⟨gb530, 1, none⟩ = some (.int .i64 a3_1) := hS_
 refine norm_ (a' := ?_) ?_ ?_
 rotate_left
 ·simp only [putAll, Act.put, lstS, lstZ, lstC]
  rfl
 refine px_ HT_ 13 21 16383 ?_
 refine on_ HT_ 14 none (bv_ 16 32767) (fun K hK => ?_)
 have hs101 : w100.cell? ⟨gb595, 0, none⟩ = some (.int .i64 0) := (blk_cell BK595.out 0).trans rfl
 have hfs101 := blk_frozen BK595.out 0
 have hns101_0 := NB530_595.out
 have hns101_1 := NB547_595.out
 have hns101_2 := NB562_595.out
 have hms101_0 := NB595_530.out
 have hms101_1 := NB595_547.out
 have hms101_2 := NB595_562.out
 have hs102 : w100.cell? ⟨gb595, 1, none⟩ = some (.int .i64 0) := (blk_cell BK595.out 1).trans rfl
 have hfs102 := blk_frozen BK595.out 1
 have hns102_0 := NB530_595.out
 have hns102_1 := NB547_595.out
 have hns102_2 := NB562_595.out
 have hms102_0 := NB595_530.out
 have hms102_1 := NB595_547.out
 have hms102_2 := NB595_562.out
 refine skip_ (w1 := ?_) (by rfl) rfl ?_ ?_
 rotate_left
 ·go_simp
  rfl
 refine hK.out _ _ ⟨(cg_ NB530_595 ((cg_ NB530_595 (hHeld.1)))), (cg_ NB530_595 ((cg_ NB530_595 (hHeld.2))))⟩ (fun hHeld => ?_)
 clear hK K
 refine px_ HT_ 15 23 65535 ?_
 refine done_ (done_of HT_.out (by kernel_rfl)) ?_
 obtain ⟨Ao103, co103, eo103⟩ := Kd.R_slice HO591.out
 subst eo103
 try go_wp2_with (first | ((refine gc_ 65 ?_); refine ge_ 135 Try.func65 #[.slice Ao103 t589.length co103, .slice Ao78 t541.length co78] ?_; (with_reducible refine (laws_eqInt64S.calls k _ _ t589 _ _ t541 true _ ?side1 ?side2 ?side3 ?side4 A45.out).mono ?_); (case side1 => refine (Kd.R_reads' (e := 2) (base := w.heap.size) (ok := fun k_ => (some k_ ≠ (.slice Ao78 t541.length co78 : Value).ownBlock ∧ some k_ ≠ (.slice Ao77 t556.length co77 : Value).ownBlock)) (n := t589.length) (c := co103) ?_).2.2; exact (ra_ (rs2_ HO591.out BK595.out))); (case side2 => exact (Kd.R_reads' HO591.out).2.1); (case side3 => refine (Kd.R_reads' (e := 2) (base := w.heap.size) (ok := fun k_ => (some k_ ≠ (.slice Ao77 t556.length co77 : Value).ownBlock ∧ some k_ ≠ (.slice Ao103 t589.length co103 : Value).ownBlock)) (n := t541.length) (c := co78) ?_).2.2; exact (ra_ (rs2_ HO543.out BK595.out))); (case side4 => exact (Kd.R_reads' HO543.out).2.1); rintro e w' ⟨rfl, ⟨nd, rfl⟩⟩; refine ⟨_, rfl, ?_⟩; have hnb104 := NB595_530.out; have hnc104 := NB530_595.out; have hnb105 := NB595_547.out; have hnc105 := NB547_595.out; have hnb106 := NB595_562.out; have hnc106 := NB562_595.out; obtain ⟨hcz107_0, hcz107_1, hfz107_0, hfz107_1⟩ := ch2_ BK595; obtain ⟨hcz108_0, hcz108_1, hfz108_0, hfz108_1⟩ := ch2_ BK547) | (go_at_call 66; (with_reducible refine (laws_eqEnd.calls t592 t593 t544 t545 true _ A47.out).mono ?_); rintro e w109 ⟨rfl, hb⟩; replace HO535 := Aside0.mk (Kd.R_below (ra_ (rs2_ HO535.out BK595.out)) hb); replace HO538 := Aside0.mk (Kd.R_below (ra_ (rs2_ HO538.out BK595.out)) hb); replace HO543 := Aside0.mk (Kd.R_below (ra_ (rs2_ HO543.out BK595.out)) hb); replace HO550 := Aside0.mk (Kd.R_below (ra_ (rs2_ HO550.out BK595.out)) hb); replace HO553 := Aside0.mk (Kd.R_below (ra_ (rs2_ HO553.out BK595.out)) hb); replace HO558 := Aside0.mk (Kd.R_below (ra_ (rs2_ HO558.out BK595.out)) hb); replace HO567 := Aside0.mk (Kd.R_below (ra_ (rs2_ HO567.out BK595.out)) hb); replace HO571 := Aside0.mk (Kd.R_below (ra_ (rs2_ HO571.out BK595.out)) hb); replace HO583 := Aside0.mk (Kd.R_below (ra_ (rs2_ HO583.out BK595.out)) hb); replace HO586 := Aside0.mk (Kd.R_below (ra_ (rs2_ HO586.out BK595.out)) hb); replace HO591 := Aside0.mk (Kd.R_below (ra_ (rs2_ HO591.out BK595.out)) hb); replace BK530 := fb_ BK530 NB530_595 hb; replace BK547 := fb_ BK547 NB547_595 hb; replace BK562 := fb_ BK562 NB562_595 hb; replace BK595 := Aside0.mk (blk_below (g := gb595) (o := .cells #[.int .i64 t592, .int .i64 t593] 74 (0, 0)) (bp_ BK595).out hb); replace HB := bt_ HB hb; (try clear hb)) | ((refine gc_ 72 ?_); refine goesL_ (some 150) rfl rfl Try.func72 (by kernel_rfl) rfl #[.slice Ao77 t579.length co77, .int .i64 1] rfl (by (try simp only [List.map_toArray, List.map_cons, List.map_nil]); first | done | (rw [show t579.length = t556.length from (Kd.R_reads' HO558.out).1.symm] <;> rfl) | rfl | (simp only [List.length_drop, List.length_take]; rfl)) ?_; (with_reducible refine (laws_heldInt64S.calls k _ _ t579 1 t598 _ ?side1 ?side2 A50.out).mono ?_); (case side1 => exact ca_ (Kd.R_reads' HO558.out).2.2); (case side2 => rw [show t579.length = t556.length from (Kd.R_reads' HO558.out).1.symm]; exact (Kd.R_reads' HO558.out).2.1); rintro e w' ⟨rfl, ⟨nd, rfl⟩⟩; refine ⟨_, rfl, ?_⟩))
 go_ret
 exact ⟨es_, (bw_ HB).out⟩
def laws_FnExactBringOut.Pure : Prop := ∀ (a0 : Int) (l1 : List (S45)) (l2 : List (S158)) (a3_0 a3_1 : Int), (Lit.int .i64 a0).wf = true → l1.length ≤ maxLen → (∀ z ∈ l1, wfS45 z) → l2.length ≤ maxLen → (∀ z ∈ l2, wfS158 z) → (Lit.int .i64 a3_0).wf = true → (Lit.int .i64 a3_1).wf = true → ∃ k, laws_FnExactBringOut.f k a0 l1 l2 a3_0 a3_1 = some true
end Go.Proofs.Ytgoeelhiffbjlaa.QB
