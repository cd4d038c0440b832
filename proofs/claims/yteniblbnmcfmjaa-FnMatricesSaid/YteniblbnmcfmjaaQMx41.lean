import Derived.Test.YteniblbnmcfmjaaQMx6
import Derived.Test.YteniblbnmcfmjaaQMx14
import Derived.Test.YteniblbnmcfmjaaQMx20
import Derived.Test.YteniblbnmcfmjaaQMx24
import Derived.Test.YteniblbnmcfmjaaQMx26
import Derived.Test.YteniblbnmcfmjaaQMx33
import Derived.Test.YteniblbnmcfmjaaQMx36
import Derived.Test.YteniblbnmcfmjaaQMx37
import Derived.Test.YteniblbnmcfmjaaQMx38
import Derived.Test.YteniblbnmcfmjaaQMx40
namespace Go.Proofs.Yteniblbnmcfmjaa.QM
open Go.RowKit Go.Proofs.YteniblbnmcfmjaaW.PrintWords Go.Proofs.YteniblbnmcfmjaaW.PrintLast Go.Proofs.YteniblbnmcfmjaaW.PrintMore
attribute [local go_sem] isSome_setCell max2_int min2_int max_two min_two max_three min_three max_four min_four
set_option linter.unusedVariables false
set_option linter.unusedSimpArgs false

attribute [local go_sem high] eqA26
/-! ### laws_FnMatrices: function 3 -/
mutual
def laws_FnMatrices.j0 : Nat → Int → Int → Int → Int → Int → Int → Int → Int → Int → Int → Int → Int → Int → Int → Int → Int → Int → Int → Int → Int → Int → Int → Int → Int → Int → Int → Int → Int → Int → Int → Int → Int → Option (Bool)
 | 0, _, _, _, _, _, _, _, _, _, _, _, _, _, _, _, _, _, _, _, _, _, _, _, _, _, _, _, _, _, _, _, _ => none
 | k + 1, x6, x16, x20, x22, x476000, x476001, x476002, x476003, x477000, x477001, x477002, x477003, x483000, x483001, x483002, x483003, x513000, x513001, x513002, x513003, x519000, x519001, x519002, x519003, x531000, x531001, x531002, x531003, x537000, x537001, x537002, x537003 => if x16 = 0 then ((impl_MultiplyMatrices.f k x513000 x513001 x513002 x513003 x519000 x519001 x519002 x519003).bind fun bt560 => ((impl_InverseMatrix.f k x519000 x519001 x519002 x519003).bind fun bt566 => ((impl_ReduceMatrix.f k x513000 x513001 x513002 x513003).bind fun bt572 => (if bt560.2.2.2.2 = 0 then (if ((!(bt560.1 == 1) || (!(bt560.2.1 == 0))) || ((!(bt560.2.2.1 == 0) || (!(bt560.2.2.2.1 == 1))))) = true then (none) else (if bt566.2.2.2.2 = 0 then (if bt572.2.2.2.2 = 0 then (if ((!(bt566.1 == bt572.1) || (!(bt566.2.1 == bt572.2.1))) || ((!(bt566.2.2.1 == bt572.2.2.1) || (!(bt566.2.2.2.1 == bt572.2.2.2.1))))) = true then (none) else (laws_FnMatrices.j1 k x6 x20 x22 x476000 x476001 x476002 x476003 x477000 x477001 x477002 x477003 x483000 x483001 x483002 x483003 x531000 x531001 x531002 x531003 x537000 x537001 x537002 x537003)) else (none)) else (none))) else (none))))) else (laws_FnMatrices.j1 k x6 x20 x22 x476000 x476001 x476002 x476003 x477000 x477001 x477002 x477003 x483000 x483001 x483002 x483003 x531000 x531001 x531002 x531003 x537000 x537001 x537002 x537003)
def laws_FnMatrices.j1 : Nat → Int → Int → Int → Int → Int → Int → Int → Int → Int → Int → Int → Int → Int → Int → Int → Int → Int → Int → Int → Int → Int → Int → Int → Option (Bool)
 | 0, _, _, _, _, _, _, _, _, _, _, _, _, _, _, _, _, _, _, _, _, _, _, _ => none
 | k + 1, x6, x20, x22, x476000, x476001, x476002, x476003, x477000, x477001, x477002, x477003, x483000, x483001, x483002, x483003, x531000, x531001, x531002, x531003, x537000, x537001, x537002, x537003 => if x22 = 0 then (laws_FnMatrices.j2 k x6 x20 (decide (x20 < 20)) x476000 x476001 x476002 x476003 x477000 x477001 x477002 x477003 x483000 x483001 x483002 x483003 x531000 x531001 x531002 x531003 x537000 x537001 x537002 x537003) else (laws_FnMatrices.j2 k x6 x20 false x476000 x476001 x476002 x476003 x477000 x477001 x477002 x477003 x483000 x483001 x483002 x483003 x531000 x531001 x531002 x531003 x537000 x537001 x537002 x537003)
def laws_FnMatrices.j2 : Nat → Int → Int → Bool → Int → Int → Int → Int → Int → Int → Int → Int → Int → Int → Int → Int → Int → Int → Int → Int → Int → Int → Int → Int → Option (Bool)
 | 0, _, _, _, _, _, _, _, _, _, _, _, _, _, _, _, _, _, _, _, _, _, _, _ => none
 | k + 1, x6, x20, x237, x476000, x476001, x476002, x476003, x477000, x477001, x477002, x477003, x483000, x483001, x483002, x483003, x531000, x531001, x531002, x531003, x537000, x537001, x537002, x537003 => if x237 = true then ((impl_PowerMatrix.f k x531000 x531001 x531002 x531003 (wrap64 (x20 + 1))).bind fun bt578 => ((impl_MultiplyMatrices.f k x537000 x537001 x537002 x537003 x531000 x531001 x531002 x531003).bind fun bt584 => (if bt578.2.2.2.2 = 0 then (if bt584.2.2.2.2 = 0 then (if ((!(bt578.1 == bt584.1) || (!(bt578.2.1 == bt584.2.1))) || ((!(bt578.2.2.1 == bt584.2.2.1) || (!(bt578.2.2.2.1 == bt584.2.2.2.1))))) = true then (none) else (laws_FnMatrices.j3 k x6 x476000 x476001 x476002 x476003 x477000 x477001 x477002 x477003 x483000 x483001 x483002 x483003)) else (laws_FnMatrices.j3 k x6 x476000 x476001 x476002 x476003 x477000 x477001 x477002 x477003 x483000 x483001 x483002 x483003)) else (laws_FnMatrices.j3 k x6 x476000 x476001 x476002 x476003 x477000 x477001 x477002 x477003 x483000 x483001 x483002 x483003)))) else (laws_FnMatrices.j3 k x6 x476000 x476001 x476002 x476003 x477000 x477001 x477002 x477003 x483000 x483001 x483002 x483003)
def laws_FnMatrices.j3 : Nat → Int → Int → Int → Int → Int → Int → Int → Int → Int → Int → Int → Int → Int → Option (Bool)
 | 0, _, _, _, _, _, _, _, _, _, _, _, _, _ => none
 | k + 1, x6, x476000, x476001, x476002, x476003, x477000, x477001, x477002, x477003, x483000, x483001, x483002, x483003 => if x6 = 0 then ((impl_MultiplyMatrices.f k x483000 x483001 x483002 x483003 x476000 x476001 x476002 x476003).bind fun bt590 => ((impl_MultiplyMatrices.f k x477000 x477001 x477002 x477003 x476000 x476001 x476002 x476003).bind fun bt596 => ((impl_MultiplyMatrices.f k x476000 x476001 x476002 x476003 bt596.1 bt596.2.1 bt596.2.2.1 bt596.2.2.2.1).bind fun bt602 => (if bt590.2.2.2.2 = 0 then (if bt596.2.2.2.2 = 0 then (if bt602.2.2.2.2 = 0 then (some ((bt590.1 == bt602.1 && (bt590.2.1 == bt602.2.1)) && ((bt590.2.2.1 == bt602.2.2.1 && (bt590.2.2.2.1 == bt602.2.2.2.1))))) else (some true)) else (some true)) else (some true))))) else (some ((x483000 == 0 && (x483001 == 0)) && ((x483002 == 0 && (x483003 == 0)))))
end
def laws_FnMatrices.f (k : Nat) (l0 : List Int) : Option (Bool) := (laws_big.f l0).bind fun t466 => (if t466 = true then (some true) else ((spec_DrawMultiplyMatrices.f k l0).bind fun bt467 => ((impl_MultiplyMatrices.f k bt467.1 bt467.2.1 bt467.2.2.1 bt467.2.2.2.1 bt467.2.2.2.2.1 bt467.2.2.2.2.2.1 bt467.2.2.2.2.2.2.1 bt467.2.2.2.2.2.2.2).bind fun bt477 => ((spec_MultiplyMatrices.f k bt467.1 bt467.2.1 bt467.2.2.1 bt467.2.2.2.1 bt467.2.2.2.2.1 bt467.2.2.2.2.2.1 bt467.2.2.2.2.2.2.1 bt467.2.2.2.2.2.2.2).bind fun bt483 => (if bt477.2.2.2.2 = bt483.2.2.2.2 then (if ((!(bt477.1 == bt483.1) || (!(bt477.2.1 == bt483.2.1))) || ((!(bt477.2.2.1 == bt483.2.2.1) || (!(bt477.2.2.2.1 == bt483.2.2.2.1))))) = true then (none) else ((impl_IsMatrix.f k bt467.1 bt467.2.1 bt467.2.2.1 bt467.2.2.2.1).bind fun t489 => ((spec_IsMatrix.f k bt467.1 bt467.2.1 bt467.2.2.1 bt467.2.2.2.1).bind fun t490 => (if (t489 != t490) = true then (none) else ((spec_DrawReduceMatrix.f k l0).bind fun bt491 => ((impl_ReduceMatrix.f k bt491.1 bt491.2.1 bt491.2.2.1 bt491.2.2.2).bind fun bt496 => ((spec_ReduceMatrix.f k bt491.1 bt491.2.1 bt491.2.2.1 bt491.2.2.2).bind fun bt502 => (if bt496.2.2.2.2 = bt502.2.2.2.2 then (if ((!(bt496.1 == bt502.1) || (!(bt496.2.1 == bt502.2.1))) || ((!(bt496.2.2.1 == bt502.2.2.1) || (!(bt496.2.2.2.1 == bt502.2.2.2.1))))) = true then (none) else ((spec_DrawInverseMatrix.f k l0).bind fun bt508 => ((impl_InverseMatrix.f k bt508.1 bt508.2.1 bt508.2.2.1 bt508.2.2.2).bind fun bt513 => ((spec_InverseMatrix.f k bt508.1 bt508.2.1 bt508.2.2.1 bt508.2.2.2).bind fun bt519 => (if bt513.2.2.2.2 = bt519.2.2.2.2 then (if ((!(bt513.1 == bt519.1) || (!(bt513.2.1 == bt519.2.1))) || ((!(bt513.2.2.1 == bt519.2.2.1) || (!(bt513.2.2.2.1 == bt519.2.2.2.1))))) = true then (none) else ((spec_DrawPowerMatrix.f k l0).bind fun bt525 => ((impl_PowerMatrix.f k bt525.1 bt525.2.1 bt525.2.2.1 bt525.2.2.2.1 bt525.2.2.2.2).bind fun bt531 => ((spec_PowerMatrix.f k bt525.1 bt525.2.1 bt525.2.2.1 bt525.2.2.2.1 bt525.2.2.2.2).bind fun bt537 => (if bt531.2.2.2.2 = bt537.2.2.2.2 then (if ((!(bt531.1 == bt537.1) || (!(bt531.2.1 == bt537.2.1))) || ((!(bt531.2.2.1 == bt537.2.2.1) || (!(bt531.2.2.2.1 == bt537.2.2.2.1))))) = true then (none) else ((spec_DrawAreSameMatrices.f k l0).bind fun bt543 => ((impl_AreSameMatrices.f k bt543.1 bt543.2.1 bt543.2.2.1 bt543.2.2.2.1 bt543.2.2.2.2.1 bt543.2.2.2.2.2.1 bt543.2.2.2.2.2.2.1 bt543.2.2.2.2.2.2.2).bind fun bt553 => ((spec_AreSameMatrices.f k bt543.1 bt543.2.1 bt543.2.2.1 bt543.2.2.2.1 bt543.2.2.2.2.1 bt543.2.2.2.2.2.1 bt543.2.2.2.2.2.2.1 bt543.2.2.2.2.2.2.2).bind fun bt555 => (if bt553.2 = bt555.2 then (if (bt553.1 != bt555.1) = true then (none) else (if bt496.2.2.2.2 = 0 then ((impl_AreSameMatrices.f k bt491.1 bt491.2.1 bt491.2.2.1 bt491.2.2.2 bt496.1 bt496.2.1 bt496.2.2.1 bt496.2.2.2.1).bind fun bt557 => (if bt557.2 = 0 then (if bt557.1 = true then ((impl_IsMatrix.f k bt496.1 bt496.2.1 bt496.2.2.1 bt496.2.2.2.1).bind fun t559 => (if t559 = true then (laws_FnMatrices.j0 k bt477.2.2.2.2 bt513.2.2.2.2 bt525.2.2.2.2 bt531.2.2.2.2 bt467.1 bt467.2.1 bt467.2.2.1 bt467.2.2.2.1 bt467.2.2.2.2.1 bt467.2.2.2.2.2.1 bt467.2.2.2.2.2.2.1 bt467.2.2.2.2.2.2.2 bt477.1 bt477.2.1 bt477.2.2.1 bt477.2.2.2.1 bt508.1 bt508.2.1 bt508.2.2.1 bt508.2.2.2 bt513.1 bt513.2.1 bt513.2.2.1 bt513.2.2.2.1 bt525.1 bt525.2.1 bt525.2.2.1 bt525.2.2.2.1 bt531.1 bt531.2.1 bt531.2.2.1 bt531.2.2.2.1) else (none))) else (none)) else (none))) else (laws_FnMatrices.j0 k bt477.2.2.2.2 bt513.2.2.2.2 bt525.2.2.2.2 bt531.2.2.2.2 bt467.1 bt467.2.1 bt467.2.2.1 bt467.2.2.2.1 bt467.2.2.2.2.1 bt467.2.2.2.2.2.1 bt467.2.2.2.2.2.2.1 bt467.2.2.2.2.2.2.2 bt477.1 bt477.2.1 bt477.2.2.1 bt477.2.2.2.1 bt508.1 bt508.2.1 bt508.2.2.1 bt508.2.2.2 bt513.1 bt513.2.1 bt513.2.2.1 bt513.2.2.2.1 bt525.1 bt525.2.1 bt525.2.2.1 bt525.2.2.2.1 bt531.1 bt531.2.1 bt531.2.2.1 bt531.2.2.2.1))) else (none)))))) else (none)))))) else (none)))))) else (none))))))))) else (none))))))
def laws_FnMatrices.T6 : Bool × List (List Nat × List Nat) := (true, [([], []), ([], []), ([0, 1], [0, 1]), ([2], [2]), ([3], [3]), ([3], [3]), ([4, 5, 3], [3, 4, 5]), ([3, 6], [3, 6]), ([7, 3], [7]), ([8], [8]), ([9, 8, 8], [8, 9]), ([8], [8]), ([11, 10, 8], [8, 11]), ([10, 12, 8], [8, 10, 12]), ([8, 13], [8, 13])])
def laws_FnMatrices.B6 : List Nat := [0, 0, 3, 7, 15, 15, 63, 127, 255, 511, 1023, 511, 4095, 8191, 16383]
theorem laws_FnMatrices.tab6 : rtab .any (opsOf Try.f3 6) = laws_FnMatrices.T6 := by kernel_rfl
theorem laws_FnMatrices.bits6 : waitsOk laws_FnMatrices.T6.2 laws_FnMatrices.B6 = true := by kernel_rfl
open Go in
theorem gwS_ {P : Program} {ops : Array Oper} {Q : Exit → Act → World → Prop} {rest : List Oper} {a : Act} {w : World} {p} {v} (h : ∀ w', w' = w.setCell p v → wpList P ops Q rest a w') : wpList P ops Q rest a (w.setCell p v) := h _ rfl
open Go in
def isK_ : Op → Bool
 | .call _ => true
 | _ => false
open Go in
def isN_ : Op → Bool
 | .alloc _ => true
 | .box _ _ => true
 | _ => false
open Go in
theorem gk_ {P : Program} {ops : Array Oper} {Q : Exit → Act → World → Prop} {rest : List Oper} {o : Oper} {a : Act} {w : World} (h : wpList P ops Q (o :: rest) a w) (ho : isK_ o.op = true := by with_unfolding_all exact rfl) : wpList P ops Q (o :: rest) a w := h
open Go in
theorem gn_ {P : Program} {ops : Array Oper} {Q : Exit → Act → World → Prop} {rest : List Oper} {o : Oper} {a : Act} {w : World} (h : wpList P ops Q (o :: rest) a w) (ho : isN_ o.op = true := by with_unfolding_all exact rfl) : wpList P ops Q (o :: rest) a w := h
set_option maxHeartbeats 400000000 in
set_option maxRecDepth 100000 in
theorem laws_FnMatrices.calls (k : Nat) (A0 : Option Addr) (c0 : Nat) (l0 : List Int) (r : Bool) (w : World) (hr0 : Kd.C (Kd.int .u8) w A0 l0.length l0) (hc0 : l0.length ≤ c0) (h : laws_FnMatrices.f k l0 = some r) :
  Calls Try.prog 3 #[.slice A0 l0.length c0] w fun e w' => e = .returned (.bool r) ∧ Below w.heap.size w w' := by
 have hu26 := Try.underlying26
 have hu24 := Try.underlying24
 have HR0 := Aside0.mk hr0
 have HC0 := Aside0.mk hc0
 clear hr0 hc0
 have HB := Aside0.mk (Below.refl w.heap.size w)
 unfold laws_FnMatrices.f at h
 have H := h
 clear h
 replace H := oc_ H
 obtain ⟨t466, A2, H⟩ := H
 replace H := ib_ H
 rcases H with ⟨rfl, H⟩ | ⟨rfl, H⟩
 ·obtain rfl := si_ H
  go_enter Try.func3, Try.ntmps3
  go_wp2_with (first | ((with_reducible refine gc_ 4 ?_); refine ge_ 50 Try.func4 #[.slice A0 l0.length c0] ?_; (with_reducible refine (laws_big.calls _ _ l0 true _ ?side1 ?side2 A2.out).mono ?_); (case side1 => exact ca_ HR0.out); (case side2 => exact HC0.out); rintro e w' ⟨rfl, ⟨nd, rfl⟩⟩; refine ⟨_, rfl, ?_⟩))
  go_ret
  exact ⟨es_, (bw_ HB).out⟩
 replace H := oc_ H
 obtain ⟨⟨t467, t468, t469, t470, t471, t472, t473, t474⟩, A4, H⟩ := H
 replace H := oc_ H
 obtain ⟨⟨t477, t478, t479, t480, t481⟩, A5, H⟩ := H
 replace H := oc_ H
 obtain ⟨⟨t483, t484, t485, t486, t487⟩, A6, H⟩ := H
 replace H := ien_ H
 obtain ⟨c7b0, c7b1, H⟩ := H
 by_cases c8 : ((!(t477 == t483) || (!(t478 == t484))) || ((!(t479 == t485) || (!(t480 == t486))))) = true
 ·rw [if_pos c8] at H
  have c8b0 : ((!(t477 == t483) || (!(t478 == t484))) || ((!(t479 == t485) || (!(t480 == t486))))) = true := c8
  clear c8
  exact absurd H (by simp)
 rw [if_neg c8] at H
 have c8b0 : ((!(t477 == t483) || (!(t478 == t484))) || ((!(t479 == t485) || (!(t480 == t486))))) = false := by simpa using c8
 clear c8
 replace H := oc_ H
 obtain ⟨t489, A9, H⟩ := H
 replace H := oc_ H
 obtain ⟨t490, A10, H⟩ := H
 by_cases c11 : (t489 != t490) = true
 ·rw [if_pos c11] at H
  exact absurd H (by simp)
 rw [if_neg c11] at H
 have c11b0 : (t489 != t490) = false := by simpa using c11
 (try (have c11b1 : decide (t489 = t490) = true := by simpa using c11))
 (try (have c11b2 : (t489 == t490) = true := by simpa using c11))
 clear c11
 replace H := oc_ H
 obtain ⟨⟨t491, t492, t493, t494⟩, A12, H⟩ := H
 replace H := oc_ H
 obtain ⟨⟨t496, t497, t498, t499, t500⟩, A13, H⟩ := H
 replace H := oc_ H
 obtain ⟨⟨t502, t503, t504, t505, t506⟩, A14, H⟩ := H
 replace H := ien_ H
 obtain ⟨c15b0, c15b1, H⟩ := H
 by_cases c16 : ((!(t496 == t502) || (!(t497 == t503))) || ((!(t498 == t504) || (!(t499 == t505))))) = true
 ·rw [if_pos c16] at H
  exact absurd H (by simp)
 rw [if_neg c16] at H
 have c16b0 : ((!(t496 == t502) || (!(t497 == t503))) || ((!(t498 == t504) || (!(t499 == t505))))) = false := by simpa using c16
 clear c16
 replace H := oc_ H
 obtain ⟨⟨t508, t509, t510, t511⟩, A17, H⟩ := H
 replace H := oc_ H
 obtain ⟨⟨t513, t514, t515, t516, t517⟩, A18, H⟩ := H
 replace H := oc_ H
 obtain ⟨⟨t519, t520, t521, t522, t523⟩, A19, H⟩ := H
 replace H := ien_ H
 obtain ⟨c20b0, c20b1, H⟩ := H
 by_cases c21 : ((!(t513 == t519) || (!(t514 == t520))) || ((!(t515 == t521) || (!(t516 == t522))))) = true
 ·rw [if_pos c21] at H
  exact absurd H (by simp)
 rw [if_neg c21] at H
 have c21b0 : ((!(t513 == t519) || (!(t514 == t520))) || ((!(t515 == t521) || (!(t516 == t522))))) = false := by simpa using c21
 clear c21
 replace H := oc_ H
 obtain ⟨⟨t525, t526, t527, t528, t529⟩, A22, H⟩ := H
 replace H := oc_ H
 obtain ⟨⟨t531, t532, t533, t534, t535⟩, A23, H⟩ := H
 replace H := oc_ H
 obtain ⟨⟨t537, t538, t539, t540, t541⟩, A24, H⟩ := H
 replace H := ien_ H
 obtain ⟨c25b0, c25b1, H⟩ := H
 by_cases c26 : ((!(t531 == t537) || (!(t532 == t538))) || ((!(t533 == t539) || (!(t534 == t540))))) = true
 ·rw [if_pos c26] at H
  exact absurd H (by simp)
 rw [if_neg c26] at H
 have c26b0 : ((!(t531 == t537) || (!(t532 == t538))) || ((!(t533 == t539) || (!(t534 == t540))))) = false := by simpa using c26
 clear c26
 replace H := oc_ H
 obtain ⟨⟨t543, t544, t545, t546, t547, t548, t549, t550⟩, A27, H⟩ := H
 replace H := oc_ H
 obtain ⟨⟨t553, t554⟩, A28, H⟩ := H
 replace H := oc_ H
 obtain ⟨⟨t555, t556⟩, A29, H⟩ := H
 replace H := ien_ H
 obtain ⟨c30b0, c30b1, H⟩ := H
 by_cases c31 : (t553 != t555) = true
 ·rw [if_pos c31] at H
  exact absurd H (by simp)
 rw [if_neg c31] at H
 have c31b0 : (t553 != t555) = false := by simpa using c31
 (try (have c31b1 : decide (t553 = t555) = true := by simpa using c31))
 (try (have c31b2 : (t553 == t555) = true := by simpa using c31))
 clear c31
 have HC32 := Aside0.mk H
 clear H
 go_enter Try.func3, Try.ntmps3
 try go_wp2_with (first | ((with_reducible refine gd_ 57 ?_); (with_reducible refine gwS_ ?_); intro wg1 hq_; have n0_ : Aside0 (wg1.heap[gb475]? = some (.cells #[.int .i64 t467, .int .i64 t468, .int .i64 t469, .int .i64 t470] 26 (0, 0))) := ⟨by rw [hq_]; exact (bp_ BK475).out⟩; have n1_ : Aside0 (wg1.heap[gb476]? = some (.cells #[.int .i64 t471, .int .i64 t472, .int .i64 t473, .int .i64 t474] 26 (0, 0))) := ⟨by rw [hq_]; exact (bp_ BK476).out⟩; have nh_ : Aside0 (Below w.heap.size w wg1) := ⟨by rw [hq_]; exact (bw_ HB).out⟩; clear hq_ HB BK475 BK476; have BK475 := n0_; have BK476 := n1_; have HB := nh_; clear nh_ n0_ n1_; (try clear hcz37_0 hcz37_1 hcz37_2 hcz37_3 hfz37_0 hfz37_1 hfz37_2 hfz37_3); (try clear hcz38_0 hcz38_1 hcz38_2 hcz38_3 hfz38_0 hfz38_1 hfz38_2 hfz38_3); obtain ⟨hg2_0, hg2_1, hg2_2, hg2_3, hg2_4, hg2_5, hg2_6, hg2_7⟩ := ch4_ BK475; obtain ⟨hg3_0, hg3_1, hg3_2, hg3_3, hg3_4, hg3_5, hg3_6, hg3_7⟩ := ch4_ BK476) | ((with_reducible refine gk_ ?_); first | ((with_reducible refine gc_ 4 ?_); refine ge_ 50 Try.func4 #[.slice A0 l0.length c0] ?_; (with_reducible refine (laws_big.calls _ _ l0 false _ ?side1 ?side2 A2.out).mono ?_); (case side1 => exact ca_ HR0.out); (case side2 => exact HC0.out); rintro e w' ⟨rfl, ⟨nd, rfl⟩⟩; refine ⟨_, rfl, ?_⟩) | ((with_reducible refine gc_ 5 ?_); refine ge_ 53 Try.func5 #[.slice A0 l0.length c0] ?_; (with_reducible refine (spec_DrawMultiplyMatrices.calls k _ _ l0 t467 t468 t469 t470 t471 t472 t473 t474 _ ?side1 ?side2 A4.out).mono ?_); (case side1 => exact ca_ HR0.out); (case side2 => exact HC0.out); rintro e w33 ⟨rfl, hb⟩; refine ⟨_, rfl, ?_⟩; replace HB := bt_ HB hb; (try clear hb)) | ((with_reducible refine gc_ 6 ?_); refine ge_ 59 Try.func6 #[.agg #[.int .i64 t467, .int .i64 t468, .int .i64 t469, .int .i64 t470], .agg #[.int .i64 t471, .int .i64 t472, .int .i64 t473, .int .i64 t474]] ?_; (with_reducible refine (impl_MultiplyMatrices.calls k t467 t468 t469 t470 t471 t472 t473 t474 t477 t478 t479 t480 t481 _ A5.out).mono ?_); rintro e w39 ⟨rfl, hb⟩; refine ⟨_, rfl, ?_⟩; replace BK475 := Aside0.mk (blk_below (g := gb475) (o := .cells #[.int .i64 t467, .int .i64 t468, .int .i64 t469, .int .i64 t470] 26 (0, 0)) (bp_ BK475).out hb); replace BK476 := Aside0.mk (blk_below (g := gb476) (o := .cells #[.int .i64 t471, .int .i64 t472, .int .i64 t473, .int .i64 t474] 26 (0, 0)) (bp_ BK476).out hb); replace HB := bt_ HB hb; (try clear hb)) | ((with_reducible refine gc_ 7 ?_); refine ge_ 65 Try.func7 #[.agg #[.int .i64 t467, .int .i64 t468, .int .i64 t469, .int .i64 t470], .agg #[.int .i64 t471, .int .i64 t472, .int .i64 t473, .int .i64 t474]] ?_; (with_reducible refine (spec_MultiplyMatrices.calls k t467 t468 t469 t470 t471 t472 t473 t474 t483 t484 t485 t486 t487 _ A6.out).mono ?_); rintro e w46 ⟨rfl, hb⟩; refine ⟨_, rfl, ?_⟩; replace BK475 := fb_ BK475 NB475_482 hb; replace BK476 := fb_ BK476 NB476_482 hb; replace BK482 := Aside0.mk (blk_below (g := gb482) (o := .cells #[.int .i64 t477, .int .i64 t478, .int .i64 t479, .int .i64 t480] 26 (0, 0)) (bp_ BK482).out hb); replace HB := bt_ HB hb; (try clear hb))) | ((with_reducible refine gn_ ?_); first | ((with_reducible refine gd_ 3 ?_); refine by_ 3 #[.int .i64 0, .int .i64 0, .int .i64 0, .int .i64 0] 26 HB ?_; intro gb475 hg w34 BK475 hb GW475 HB_; replace HB := HB_; clear hb hg) | ((with_reducible refine gd_ 4 ?_); refine by_ 4 #[.int .i64 0, .int .i64 0, .int .i64 0, .int .i64 0] 26 HB ?_; intro gb476 hg w35 BK476 hb GW476 HB_; have NB475_476 := bm_ BK475 hg; have NB476_475 := bn_ BK475 hg; replace BK475 := bb_ BK475 hb; replace HB := HB_; clear hb hg; have hnb36 := NB475_476.out; have hnc36 := NB476_475.out; obtain ⟨hcz37_0, hcz37_1, hcz37_2, hcz37_3, hfz37_0, hfz37_1, hfz37_2, hfz37_3⟩ := ch4_ BK475; obtain ⟨hcz38_0, hcz38_1, hcz38_2, hcz38_3, hfz38_0, hfz38_1, hfz38_2, hfz38_3⟩ := ch4_ BK476) | ((with_reducible refine gd_ 5 ?_); refine by_ 5 #[.int .i64 0, .int .i64 0, .int .i64 0, .int .i64 0] 26 HB ?_; intro gb482 hg w40 BK482 hb GW482 HB_; have NB475_482 := bm_ BK475 hg; have NB482_475 := bn_ BK475 hg; have NB476_482 := bm_ BK476 hg; have NB482_476 := bn_ BK476 hg; replace BK475 := bb_ BK475 hb; replace BK476 := bb_ BK476 hb; replace HB := HB_; clear hb hg; have hnb41 := NB482_475.out; have hnc41 := NB475_482.out; have hnb42 := NB482_476.out; have hnc42 := NB476_482.out; (try clear hg2_0 hg2_1 hg2_2 hg2_3 hg2_4 hg2_5 hg2_6 hg2_7); (try clear hg3_0 hg3_1 hg3_2 hg3_3 hg3_4 hg3_5 hg3_6 hg3_7); obtain ⟨hcz43_0, hcz43_1, hcz43_2, hcz43_3, hfz43_0, hfz43_1, hfz43_2, hfz43_3⟩ := ch4_ BK482; obtain ⟨hcz44_0, hcz44_1, hcz44_2, hcz44_3, hfz44_0, hfz44_1, hfz44_2, hfz44_3⟩ := ch4_ BK475; obtain ⟨hcz45_0, hcz45_1, hcz45_2, hcz45_3, hfz45_0, hfz45_1, hfz45_2, hfz45_3⟩ := ch4_ BK476) | ((with_reducible refine gd_ 7 ?_); refine by_ 7 #[.int .i64 0, .int .i64 0, .int .i64 0, .int .i64 0] 26 HB ?_; intro gb488 hg w47 BK488 hb GW488 HB_; have NB475_488 := bm_ BK475 hg; have NB488_475 := bn_ BK475 hg; have NB476_488 := bm_ BK476 hg; have NB488_476 := bn_ BK476 hg; have NB482_488 := bm_ BK482 hg; have NB488_482 := bn_ BK482 hg; replace BK475 := bb_ BK475 hb; replace BK476 := bb_ BK476 hb; replace BK482 := bb_ BK482 hb; replace HB := HB_; clear hb hg; (try clear hcz43_0 hcz43_1 hcz43_2 hcz43_3 hfz43_0 hfz43_1 hfz43_2 hfz43_3); (try clear hcz44_0 hcz44_1 hcz44_2 hcz44_3 hfz44_0 hfz44_1 hfz44_2 hfz44_3); (try clear hcz45_0 hcz45_1 hcz45_2 hcz45_3 hfz45_0 hfz45_1 hfz45_2 hfz45_3); obtain ⟨hcz51_0, hcz51_1, hcz51_2, hcz51_3, hfz51_0, hfz51_1, hfz51_2, hfz51_3⟩ := ch4_ BK488)))
 have n0_ : Aside0 (((((w47.setCell ⟨gb488, 0, none⟩ (.int .i64 t483)).setCell ⟨gb488, 1, none⟩ (.int .i64 t484)).setCell ⟨gb488, 2, none⟩ (.int .i64 t485)).setCell ⟨gb488, 3, none⟩ (.int .i64 t486)).heap[gb475]? = some (.cells #[.int .i64 t467, .int .i64 t468, .int .i64 t469, .int .i64 t470] 26 (0, 0))) := fl_ BK475 NB475_488
 have n1_ : Aside0 (((((w47.setCell ⟨gb488, 0, none⟩ (.int .i64 t483)).setCell ⟨gb488, 1, none⟩ (.int .i64 t484)).setCell ⟨gb488, 2, none⟩ (.int .i64 t485)).setCell ⟨gb488, 3, none⟩ (.int .i64 t486)).heap[gb476]? = some (.cells #[.int .i64 t471, .int .i64 t472, .int .i64 t473, .int .i64 t474] 26 (0, 0))) := fl_ BK476 NB476_488
 have n2_ : Aside0 (((((w47.setCell ⟨gb488, 0, none⟩ (.int .i64 t483)).setCell ⟨gb488, 1, none⟩ (.int .i64 t484)).setCell ⟨gb488, 2, none⟩ (.int .i64 t485)).setCell ⟨gb488, 3, none⟩ (.int .i64 t486)).heap[gb482]? = some (.cells #[.int .i64 t477, .int .i64 t478, .int .i64 t479, .int .i64 t480] 26 (0, 0))) := fl_ BK482 NB482_488
 have n3_ : Aside0 (((((w47.setCell ⟨gb488, 0, none⟩ (.int .i64 t483)).setCell ⟨gb488, 1, none⟩ (.int .i64 t484)).setCell ⟨gb488, 2, none⟩ (.int .i64 t485)).setCell ⟨gb488, 3, none⟩ (.int .i64 t486)).heap[gb488]? = some (.cells #[.int .i64 t483, .int .i64 t484, .int .i64 t485, .int .i64 t486] 26 (0, 0))) := bp_ BK488
 have n4_ : Aside0 (Below w.heap.size w ((((w47.setCell ⟨gb488, 0, none⟩ (.int .i64 t483)).setCell ⟨gb488, 1, none⟩ (.int .i64 t484)).setCell ⟨gb488, 2, none⟩ (.int .i64 t485)).setCell ⟨gb488, 3, none⟩ (.int .i64 t486))) := bw_ HB
 (try clear BK475)
 (try clear BK476)
 (try clear BK482)
 (try clear BK488)
 (try clear HB)
 generalize ((((w47.setCell ⟨gb488, 0, none⟩ (.int .i64 t483)).setCell ⟨gb488, 1, none⟩ (.int .i64 t484)).setCell ⟨gb488, 2, none⟩ (.int .i64 t485)).setCell ⟨gb488, 3, none⟩ (.int .i64 t486)) = w52 at n0_ n1_ n2_ n3_ n4_ ⊢
 have BK475 := n0_
 have BK476 := n1_
 have BK482 := n2_
 have BK488 := n3_
 have HB := n4_
 clear n0_ n1_ n2_ n3_ n4_
 replace BK475 := bd_ BK475
 replace BK476 := bd_ BK476
 replace BK482 := bd_ BK482
 replace BK488 := bd_ BK488
 replace HB := be_ HB
 refine start_ (n := 15) (S := fun w' => w'.cell? ⟨gb482, 0, none⟩ = some (.int .i64 t477) ∧ w'.cell? ⟨gb482, 1, none⟩ = some (.int .i64 t478) ∧ w'.cell? ⟨gb482, 2, none⟩ = some (.int .i64 t479) ∧ w'.cell? ⟨gb482, 3, none⟩ = some (.int .i64 t480) ∧ w'.cell? ⟨gb488, 0, none⟩ = some (.int .i64 t483) ∧ w'.cell? ⟨gb488, 1, none⟩ = some (.int .i64 t484) ∧ w'.cell? ⟨gb488, 2, none⟩ = some (.int .i64 t485) ∧ w'.cell? ⟨gb488, 3, none⟩ = some (.int .i64 t486) ∧ w'.cell? ⟨gb475, 0, none⟩ = some (.int .i64 t467) ∧ w'.cell? ⟨gb475, 1, none⟩ = some (.int .i64 t468) ∧ w'.cell? ⟨gb475, 2, none⟩ = some (.int .i64 t469) ∧ w'.cell? ⟨gb475, 3, none⟩ = some (.int .i64 t470)) (ds := []) (bv_ 15 0) (by kernel_rfl) rfl rfl ⟨cz_ BK482 0, cz_ BK482 1, cz_ BK482 2, cz_ BK482 3, cz_ BK488 0, cz_ BK488 1, cz_ BK488 2, cz_ BK488 3, cz_ BK475 0, cz_ BK475 1, cz_ BK475 2, cz_ BK475 3⟩ (fun hHeld => ?_); refine with_tabW laws_FnMatrices.tab6 laws_FnMatrices.bits6 (fun HT_ HW_ => ?_)
 generalize w52.drew = w53 at BK475 BK476 BK482 BK488 HB hHeld ⊢
 refine px_ HT_ 0 68 1 ?_
 refine px_ HT_ 1 69 3 ?_
 refine px_ HT_ 2 70 7 ?_
 refine px_ HT_ 3 71 15 ?_
 refine ta_ HT_ HW_ 4 (some 72) (bv_ 15 31) hHeld ?_ (hy := by rintro w' ⟨s0, s1, s2, s3, s4, s5, s6, s7, s8, s9, s10, s11⟩; go_simp; with_reducible rfl)
 refine ta_ HT_ HW_ 5 (some 73) (bv_ 15 63) hHeld ?_ (hy := by rintro w' ⟨s0, s1, s2, s3, s4, s5, s6, s7, s8, s9, s10, s11⟩; go_simp; with_reducible rfl)
 refine px_ HT_ 6 74 127 ?_
 refine px_ HT_ 7 75 255 ?_
 refine px_ HT_ 8 76 511 ?_
 refine ta_ HT_ HW_ 9 (some 77) (bv_ 15 1023) hHeld ?_ (hy := by rintro w' ⟨s0, s1, s2, s3, s4, s5, s6, s7, s8, s9, s10, s11⟩; go_simp; with_reducible rfl)
 refine ta_ HT_ HW_ 11 (some 79) (bv_ 15 3071) hHeld ?_ (hy := by rintro w' ⟨s0, s1, s2, s3, s4, s5, s6, s7, s8, s9, s10, s11⟩; go_simp; with_reducible rfl)
 refine on_ HT_ 10 (some 78) (bv_ 15 4095) (fun K hK => ?_)
 refine gs_ Try.func8 #[.agg #[.int .i64 t467, .int .i64 t468, .int .i64 t469, .int .i64 t470]] ?_
 with_reducible refine (impl_IsMatrix.calls k t467 t468 t469 t470 t489 _ A9.out).mono ?_
 rintro e w54 ⟨rfl, hb⟩
 refine ⟨_, rfl, ?_⟩
 replace BK475 := bb_ BK475 hb
 replace BK476 := bb_ BK476 hb
 replace BK482 := bb_ BK482 hb
 replace BK488 := bb_ BK488 hb
 replace HB := bt_ HB hb
 try clear hb
 refine hK.out _ _ ⟨cz_ BK482 0, cz_ BK482 1, cz_ BK482 2, cz_ BK482 3, cz_ BK488 0, cz_ BK488 1, cz_ BK488 2, cz_ BK488 3, cz_ BK475 0, cz_ BK475 1, cz_ BK475 2, cz_ BK475 3⟩ (fun hHeld => ?_)
 clear hK K
 refine nm_ (some 78) ?_
 refine on_ HT_ 12 (some 80) (bv_ 15 8191) (fun K hK => ?_)
 refine gs_ Try.func9 #[.agg #[.int .i64 t467, .int .i64 t468, .int .i64 t469, .int .i64 t470]] ?_
 with_reducible refine (spec_IsMatrix.calls k t467 t468 t469 t470 t490 _ A10.out).mono ?_
 rintro e w55 ⟨rfl, hb⟩
 refine ⟨_, rfl, ?_⟩
 replace BK475 := bb_ BK475 hb
 replace BK476 := bb_ BK476 hb
 replace BK482 := bb_ BK482 hb
 replace BK488 := bb_ BK488 hb
 replace HB := bt_ HB hb
 try clear hb
 refine hK.out _ _ ⟨cz_ BK482 0, cz_ BK482 1, cz_ BK482 2, cz_ BK482 3, cz_ BK488 0, cz_ BK488 1, cz_ BK488 2, cz_ BK488 3, cz_ BK475 0, cz_ BK475 1, cz_ BK475 2, cz_ BK475 3⟩ (fun hHeld => ?_)
 clear hK K
 refine nm_ (some 80) ?_
 refine px_ HT_ 13 81 16383 ?_
 refine px_ HT_ 14 82 32767 ?_
 refine done_ (done_of HT_.out (by kernel_rfl)) ?_
 go_upto_if 174 with (first | ((with_reducible refine gd_ 154 ?_); (with_reducible refine gwS_ ?_); intro wg4 hq_; have n0_ : Aside0 (wg4.heap[gb475]? = some (.cells #[.int .i64 t467, .int .i64 t468, .int .i64 t469, .int .i64 t470] 26 (0, 0))) := ⟨by rw [hq_]; exact (bp_ BK475).out⟩; have n1_ : Aside0 (wg4.heap[gb476]? = some (.cells #[.int .i64 t471, .int .i64 t472, .int .i64 t473, .int .i64 t474] 26 (0, 0))) := ⟨by rw [hq_]; exact (bp_ BK476).out⟩; have n2_ : Aside0 (wg4.heap[gb482]? = some (.cells #[.int .i64 t477, .int .i64 t478, .int .i64 t479, .int .i64 t480] 26 (0, 0))) := ⟨by rw [hq_]; exact (bp_ BK482).out⟩; have n3_ : Aside0 (wg4.heap[gb488]? = some (.cells #[.int .i64 t483, .int .i64 t484, .int .i64 t485, .int .i64 t486] 26 (0, 0))) := ⟨by rw [hq_]; exact (bp_ BK488).out⟩; have n4_ : Aside0 (wg4.heap[gb495]? = some (.cells #[.int .i64 t491, .int .i64 t492, .int .i64 t493, .int .i64 t494] 26 (0, 0))) := ⟨by rw [hq_]; exact (bp_ BK495).out⟩; have n5_ : Aside0 (wg4.heap[gb501]? = some (.cells #[.int .i64 t496, .int .i64 t497, .int .i64 t498, .int .i64 t499] 26 (0, 0))) := ⟨by rw [hq_]; exact (bp_ BK501).out⟩; have n6_ : Aside0 (wg4.heap[gb507]? = some (.cells #[.int .i64 t502, .int .i64 t503, .int .i64 t504, .int .i64 t505] 26 (0, 0))) := ⟨by rw [hq_]; exact (bp_ BK507).out⟩; have n7_ : Aside0 (wg4.heap[gb512]? = some (.cells #[.int .i64 t508, .int .i64 t509, .int .i64 t510, .int .i64 t511] 26 (0, 0))) := ⟨by rw [hq_]; exact (bp_ BK512).out⟩; have n8_ : Aside0 (wg4.heap[gb518]? = some (.cells #[.int .i64 t513, .int .i64 t514, .int .i64 t515, .int .i64 t516] 26 (0, 0))) := ⟨by rw [hq_]; exact (bp_ BK518).out⟩; have n9_ : Aside0 (wg4.heap[gb524]? = some (.cells #[.int .i64 t519, .int .i64 t520, .int .i64 t521, .int .i64 t522] 26 (0, 0))) := ⟨by rw [hq_]; exact (bp_ BK524).out⟩; have n10_ : Aside0 (wg4.heap[gb530]? = some (.cells #[.int .i64 t525, .int .i64 t526, .int .i64 t527, .int .i64 t528] 26 (0, 0))) := ⟨by rw [hq_]; exact (bp_ BK530).out⟩; have n11_ : Aside0 (wg4.heap[gb536]? = some (.cells #[.int .i64 t531, .int .i64 t532, .int .i64 t533, .int .i64 t534] 26 (0, 0))) := ⟨by rw [hq_]; exact (bp_ BK536).out⟩; have n12_ : Aside0 (wg4.heap[gb542]? = some (.cells #[.int .i64 t537, .int .i64 t538, .int .i64 t539, .int .i64 t540] 26 (0, 0))) := ⟨by rw [hq_]; exact (bp_ BK542).out⟩; have n13_ : Aside0 (wg4.heap[gb551]? = some (.cells #[.int .i64 t543, .int .i64 t544, .int .i64 t545, .int .i64 t546] 26 (0, 0))) := ⟨by rw [hq_]; exact (bp_ BK551).out⟩; have n14_ : Aside0 (wg4.heap[gb552]? = some (.cells #[.int .i64 t547, .int .i64 t548, .int .i64 t549, .int .i64 t550] 26 (0, 0))) := ⟨by rw [hq_]; exact (bp_ BK552).out⟩; have nh_ : Aside0 (Below w.heap.size w wg4) := ⟨by rw [hq_]; exact (bw_ HB).out⟩; clear hq_ HB BK475 BK476 BK482 BK488 BK495 BK501 BK507 BK512 BK518 BK524 BK530 BK536 BK542 BK551 BK552; have BK475 := n0_; have BK476 := n1_; have BK482 := n2_; have BK488 := n3_; have BK495 := n4_; have BK501 := n5_; have BK507 := n6_; have BK512 := n7_; have BK518 := n8_; have BK524 := n9_; have BK530 := n10_; have BK536 := n11_; have BK542 := n12_; have BK551 := n13_; have BK552 := n14_; have HB := nh_; clear nh_ n0_ n1_ n2_ n3_ n4_ n5_ n6_ n7_ n8_ n9_ n10_ n11_ n12_ n13_ n14_; (try clear hcz178_0 hcz178_1 hcz178_2 hcz178_3 hfz178_0 hfz178_1 hfz178_2 hfz178_3); (try clear hcz192_0 hcz192_1 hcz192_2 hcz192_3 hfz192_0 hfz192_1 hfz192_2 hfz192_3); obtain ⟨hg5_0, hg5_1, hg5_2, hg5_3, hg5_4, hg5_5, hg5_6, hg5_7⟩ := ch4_ BK475; obtain ⟨hg6_0, hg6_1, hg6_2, hg6_3, hg6_4, hg6_5, hg6_6, hg6_7⟩ := ch4_ BK476; obtain ⟨hg7_0, hg7_1, hg7_2, hg7_3, hg7_4, hg7_5, hg7_6, hg7_7⟩ := ch4_ BK482; obtain ⟨hg8_0, hg8_1, hg8_2, hg8_3, hg8_4, hg8_5, hg8_6, hg8_7⟩ := ch4_ BK488; obtain ⟨hg9_0, hg9_1, hg9_2, hg9_3, hg9_4, hg9_5, hg9_6, hg9_7⟩ := ch4_ BK495; obtain ⟨hg10_0, hg10_1, hg10_2, hg10_3, hg10_4, hg10_5, hg10_6, hg10_7⟩ := ch4_ BK501; obtain ⟨hg11_0, hg11_1, hg11_2, hg11_3, hg11_4, hg11_5, hg11_6, hg11_7⟩ := ch4_ BK507; obtain ⟨hg12_0, hg12_1, hg12_2, hg12_3, hg12_4, hg12_5, hg12_6, hg12_7⟩ := ch4_ BK512; obtain ⟨hg13_0, hg13_1, hg13_2, hg13_3, hg13_4, hg13_5, hg13_6, hg13_7⟩ := ch4_ BK518; obtain ⟨hg14_0, hg14_1, hg14_2, hg14_3, hg14_4, hg14_5, hg14_6, hg14_7⟩ := ch4_ BK524; obtain ⟨hg15_0, hg15_1, hg15_2, hg15_3, hg15_4, hg15_5, hg15_6, hg15_7⟩ := ch4_ BK530; obtain ⟨hg16_0, hg16_1, hg16_2, hg16_3, hg16_4, hg16_5, hg16_6, hg16_7⟩ := ch4_ BK536; obtain ⟨hg17_0, hg17_1, hg17_2, hg17_3, hg17_4, hg17_5, hg17_6, hg17_7⟩ := ch4_ BK542; obtain ⟨hg18_0, hg18_1, hg18_2, hg18_3, hg18_4, hg18_5, hg18_6, hg18_7⟩ := ch4_ BK551; obtain ⟨hg19_0, hg19_1, hg19_2, hg19_3, hg19_4, hg19_5, hg19_6, hg19_7⟩ := ch4_ BK552) | ((with_reducible refine gk_ ?_); first | ((with_reducible refine gc_ 10 ?_); refine ge_ 84 Try.func10 #[.slice A0 l0.length c0] ?_; (with_reducible refine (spec_DrawReduceMatrix.calls k _ _ l0 t491 t492 t493 t494 _ ?side1 ?side2 A12.out).mono ?_); (case side1 => exact ca_ (Kd.C_below HR0.out HB.out)); (case side2 => exact HC0.out); rintro e w56 ⟨rfl, hb⟩; refine ⟨_, rfl, ?_⟩; replace BK475 := bb_ BK475 hb; replace BK476 := bb_ BK476 hb; replace BK482 := bb_ BK482 hb; replace BK488 := bb_ BK488 hb; replace HB := bt_ HB hb; (try clear hb)) | ((with_reducible refine gc_ 11 ?_); refine ge_ 87 Try.func11 #[.agg #[.int .i64 t491, .int .i64 t492, .int .i64 t493, .int .i64 t494]] ?_; (with_reducible refine (impl_ReduceMatrix.calls k t491 t492 t493 t494 t496 t497 t498 t499 t500 _ A13.out).mono ?_); rintro e w63 ⟨rfl, hb⟩; refine ⟨_, rfl, ?_⟩; replace BK475 := fb_ BK475 NB475_495 hb; replace BK476 := fb_ BK476 NB476_495 hb; replace BK482 := fb_ BK482 NB482_495 hb; replace BK488 := fb_ BK488 NB488_495 hb; replace BK495 := Aside0.mk (blk_below (g := gb495) (o := .cells #[.int .i64 t491, .int .i64 t492, .int .i64 t493, .int .i64 t494] 26 (0, 0)) (bp_ BK495).out hb); replace HB := bt_ HB hb; (try clear hb)) | ((with_reducible refine gc_ 12 ?_); refine ge_ 92 Try.func12 #[.agg #[.int .i64 t491, .int .i64 t492, .int .i64 t493, .int .i64 t494]] ?_; (with_reducible refine (spec_ReduceMatrix.calls k t491 t492 t493 t494 t502 t503 t504 t505 t506 _ A14.out).mono ?_); rintro e w72 ⟨rfl, hb⟩; refine ⟨_, rfl, ?_⟩; replace BK475 := fb_ BK475 NB475_501 hb; replace BK476 := fb_ BK476 NB476_501 hb; replace BK482 := fb_ BK482 NB482_501 hb; replace BK488 := fb_ BK488 NB488_501 hb; replace BK495 := fb_ BK495 NB495_501 hb; replace BK501 := Aside0.mk (blk_below (g := gb501) (o := .cells #[.int .i64 t496, .int .i64 t497, .int .i64 t498, .int .i64 t499] 26 (0, 0)) (bp_ BK501).out hb); replace HB := bt_ HB hb; (try clear hb)) | ((with_reducible refine gc_ 13 ?_); refine ge_ 104 Try.func13 #[.slice A0 l0.length c0] ?_; (with_reducible refine (spec_DrawInverseMatrix.calls k _ _ l0 t508 t509 t510 t511 _ ?side1 ?side2 A17.out).mono ?_); (case side1 => exact Kd.C_below HR0.out (bw_ HB).out); (case side2 => exact HC0.out); rintro e w82 ⟨rfl, hb⟩; refine ⟨_, rfl, ?_⟩; replace BK475 := fb_ BK475 NB475_507 hb; replace BK476 := fb_ BK476 NB476_507 hb; replace BK482 := fb_ BK482 NB482_507 hb; replace BK488 := fb_ BK488 NB488_507 hb; replace BK495 := fb_ BK495 NB495_507 hb; replace BK501 := fb_ BK501 NB501_507 hb; replace BK507 := Aside0.mk (blk_below (g := gb507) (o := .cells #[.int .i64 t502, .int .i64 t503, .int .i64 t504, .int .i64 t505] 26 (0, 0)) (bp_ BK507).out hb); replace HB := bt_ HB hb; (try clear hb)) | ((with_reducible refine gc_ 14 ?_); refine ge_ 107 Try.func14 #[.agg #[.int .i64 t508, .int .i64 t509, .int .i64 t510, .int .i64 t511]] ?_; (with_reducible refine (impl_InverseMatrix.calls k t508 t509 t510 t511 t513 t514 t515 t516 t517 _ A18.out).mono ?_); rintro e w92 ⟨rfl, hb⟩; refine ⟨_, rfl, ?_⟩; replace BK475 := fb_ BK475 NB475_512 hb; replace BK476 := fb_ BK476 NB476_512 hb; replace BK482 := fb_ BK482 NB482_512 hb; replace BK488 := fb_ BK488 NB488_512 hb; replace BK495 := fb_ BK495 NB495_512 hb; replace BK501 := fb_ BK501 NB501_512 hb; replace BK507 := fb_ BK507 NB507_512 hb; replace BK512 := Aside0.mk (blk_below (g := gb512) (o := .cells #[.int .i64 t508, .int .i64 t509, .int .i64 t510, .int .i64 t511] 26 (0, 0)) (bp_ BK512).out hb); replace HB := bt_ HB hb; (try clear hb)) | ((with_reducible refine gc_ 15 ?_); refine ge_ 112 Try.func15 #[.agg #[.int .i64 t508, .int .i64 t509, .int .i64 t510, .int .i64 t511]] ?_; (with_reducible refine (spec_InverseMatrix.calls k t508 t509 t510 t511 t519 t520 t521 t522 t523 _ A19.out).mono ?_); rintro e w104 ⟨rfl, hb⟩; refine ⟨_, rfl, ?_⟩; replace BK475 := fb_ BK475 NB475_518 hb; replace BK476 := fb_ BK476 NB476_518 hb; replace BK482 := fb_ BK482 NB482_518 hb; replace BK488 := fb_ BK488 NB488_518 hb; replace BK495 := fb_ BK495 NB495_518 hb; replace BK501 := fb_ BK501 NB501_518 hb; replace BK507 := fb_ BK507 NB507_518 hb; replace BK512 := fb_ BK512 NB512_518 hb; replace BK518 := Aside0.mk (blk_below (g := gb518) (o := .cells #[.int .i64 t513, .int .i64 t514, .int .i64 t515, .int .i64 t516] 26 (0, 0)) (bp_ BK518).out hb); replace HB := bt_ HB hb; (try clear hb)) | ((with_reducible refine gc_ 16 ?_); refine ge_ 125 Try.func16 #[.slice A0 l0.length c0] ?_; (with_reducible refine (spec_DrawPowerMatrix.calls k _ _ l0 t525 t526 t527 t528 t529 _ ?side1 ?side2 A22.out).mono ?_); (case side1 => exact Kd.C_below HR0.out (bw_ HB).out); (case side2 => exact HC0.out); rintro e w117 ⟨rfl, hb⟩; refine ⟨_, rfl, ?_⟩; replace BK475 := fb_ BK475 NB475_524 hb; replace BK476 := fb_ BK476 NB476_524 hb; replace BK482 := fb_ BK482 NB482_524 hb; replace BK488 := fb_ BK488 NB488_524 hb; replace BK495 := fb_ BK495 NB495_524 hb; replace BK501 := fb_ BK501 NB501_524 hb; replace BK507 := fb_ BK507 NB507_524 hb; replace BK512 := fb_ BK512 NB512_524 hb; replace BK518 := fb_ BK518 NB518_524 hb; replace BK524 := Aside0.mk (blk_below (g := gb524) (o := .cells #[.int .i64 t519, .int .i64 t520, .int .i64 t521, .int .i64 t522] 26 (0, 0)) (bp_ BK524).out hb); replace HB := bt_ HB hb; (try clear hb)) | ((with_reducible refine gc_ 17 ?_); refine ge_ 131 Try.func17 #[.agg #[.int .i64 t525, .int .i64 t526, .int .i64 t527, .int .i64 t528], .int .i64 t529] ?_; (with_reducible refine (impl_PowerMatrix.calls k t525 t526 t527 t528 t529 t531 t532 t533 t534 t535 _ A23.out).mono ?_); rintro e w130 ⟨rfl, hb⟩; refine ⟨_, rfl, ?_⟩; replace BK475 := fb_ BK475 NB475_530 hb; replace BK476 := fb_ BK476 NB476_530 hb; replace BK482 := fb_ BK482 NB482_530 hb; replace BK488 := fb_ BK488 NB488_530 hb; replace BK495 := fb_ BK495 NB495_530 hb; replace BK501 := fb_ BK501 NB501_530 hb; replace BK507 := fb_ BK507 NB507_530 hb; replace BK512 := fb_ BK512 NB512_530 hb; replace BK518 := fb_ BK518 NB518_530 hb; replace BK524 := fb_ BK524 NB524_530 hb; replace BK530 := Aside0.mk (blk_below (g := gb530) (o := .cells #[.int .i64 t525, .int .i64 t526, .int .i64 t527, .int .i64 t528] 26 (0, 0)) (bp_ BK530).out hb); replace HB := bt_ HB hb; (try clear hb)) | ((with_reducible refine gc_ 18 ?_); refine ge_ 137 Try.func18 #[.agg #[.int .i64 t525, .int .i64 t526, .int .i64 t527, .int .i64 t528], .int .i64 t529] ?_; (with_reducible refine (spec_PowerMatrix.calls k t525 t526 t527 t528 t529 t537 t538 t539 t540 t541 _ A24.out).mono ?_); rintro e w145 ⟨rfl, hb⟩; refine ⟨_, rfl, ?_⟩; replace BK475 := fb_ BK475 NB475_536 hb; replace BK476 := fb_ BK476 NB476_536 hb; replace BK482 := fb_ BK482 NB482_536 hb; replace BK488 := fb_ BK488 NB488_536 hb; replace BK495 := fb_ BK495 NB495_536 hb; replace BK501 := fb_ BK501 NB501_536 hb; replace BK507 := fb_ BK507 NB507_536 hb; replace BK512 := fb_ BK512 NB512_536 hb; replace BK518 := fb_ BK518 NB518_536 hb; replace BK524 := fb_ BK524 NB524_536 hb; replace BK530 := fb_ BK530 NB530_536 hb; replace BK536 := Aside0.mk (blk_below (g := gb536) (o := .cells #[.int .i64 t531, .int .i64 t532, .int .i64 t533, .int .i64 t534] 26 (0, 0)) (bp_ BK536).out hb); replace HB := bt_ HB hb; (try clear hb)) | ((with_reducible refine gc_ 19 ?_); refine ge_ 150 Try.func19 #[.slice A0 l0.length c0] ?_; (with_reducible refine (spec_DrawAreSameMatrices.calls k _ _ l0 t543 t544 t545 t546 t547 t548 t549 t550 _ ?side1 ?side2 A27.out).mono ?_); (case side1 => exact Kd.C_below HR0.out (bw_ HB).out); (case side2 => exact HC0.out); rintro e w161 ⟨rfl, hb⟩; refine ⟨_, rfl, ?_⟩; replace BK475 := fb_ BK475 NB475_542 hb; replace BK476 := fb_ BK476 NB476_542 hb; replace BK482 := fb_ BK482 NB482_542 hb; replace BK488 := fb_ BK488 NB488_542 hb; replace BK495 := fb_ BK495 NB495_542 hb; replace BK501 := fb_ BK501 NB501_542 hb; replace BK507 := fb_ BK507 NB507_542 hb; replace BK512 := fb_ BK512 NB512_542 hb; replace BK518 := fb_ BK518 NB518_542 hb; replace BK524 := fb_ BK524 NB524_542 hb; replace BK530 := fb_ BK530 NB530_542 hb; replace BK536 := fb_ BK536 NB536_542 hb; replace BK542 := Aside0.mk (blk_below (g := gb542) (o := .cells #[.int .i64 t537, .int .i64 t538, .int .i64 t539, .int .i64 t540] 26 (0, 0)) (bp_ BK542).out hb); replace HB := bt_ HB hb; (try clear hb)) | ((with_reducible refine gc_ 20 ?_); refine ge_ 156 Try.func20 #[.agg #[.int .i64 t543, .int .i64 t544, .int .i64 t545, .int .i64 t546], .agg #[.int .i64 t547, .int .i64 t548, .int .i64 t549, .int .i64 t550]] ?_; (with_reducible refine (impl_AreSameMatrices.calls k t543 t544 t545 t546 t547 t548 t549 t550 t553 t554 _ A28.out).mono ?_); rintro e w193 ⟨rfl, hb⟩; refine ⟨_, rfl, ?_⟩; replace BK475 := Aside0.mk (blk_below (g := gb475) (o := .cells #[.int .i64 t467, .int .i64 t468, .int .i64 t469, .int .i64 t470] 26 (0, 0)) (bp_ BK475).out hb); replace BK476 := Aside0.mk (blk_below (g := gb476) (o := .cells #[.int .i64 t471, .int .i64 t472, .int .i64 t473, .int .i64 t474] 26 (0, 0)) (bp_ BK476).out hb); replace BK482 := Aside0.mk (blk_below (g := gb482) (o := .cells #[.int .i64 t477, .int .i64 t478, .int .i64 t479, .int .i64 t480] 26 (0, 0)) (bp_ BK482).out hb); replace BK488 := Aside0.mk (blk_below (g := gb488) (o := .cells #[.int .i64 t483, .int .i64 t484, .int .i64 t485, .int .i64 t486] 26 (0, 0)) (bp_ BK488).out hb); replace BK495 := Aside0.mk (blk_below (g := gb495) (o := .cells #[.int .i64 t491, .int .i64 t492, .int .i64 t493, .int .i64 t494] 26 (0, 0)) (bp_ BK495).out hb); replace BK501 := Aside0.mk (blk_below (g := gb501) (o := .cells #[.int .i64 t496, .int .i64 t497, .int .i64 t498, .int .i64 t499] 26 (0, 0)) (bp_ BK501).out hb); replace BK507 := Aside0.mk (blk_below (g := gb507) (o := .cells #[.int .i64 t502, .int .i64 t503, .int .i64 t504, .int .i64 t505] 26 (0, 0)) (bp_ BK507).out hb); replace BK512 := Aside0.mk (blk_below (g := gb512) (o := .cells #[.int .i64 t508, .int .i64 t509, .int .i64 t510, .int .i64 t511] 26 (0, 0)) (bp_ BK512).out hb); replace BK518 := Aside0.mk (blk_below (g := gb518) (o := .cells #[.int .i64 t513, .int .i64 t514, .int .i64 t515, .int .i64 t516] 26 (0, 0)) (bp_ BK518).out hb); replace BK524 := Aside0.mk (blk_below (g := gb524) (o := .cells #[.int .i64 t519, .int .i64 t520, .int .i64 t521, .int .i64 t522] 26 (0, 0)) (bp_ BK524).out hb); replace BK530 := Aside0.mk (blk_below (g := gb530) (o := .cells #[.int .i64 t525, .int .i64 t526, .int .i64 t527, .int .i64 t528] 26 (0, 0)) (bp_ BK530).out hb); replace BK536 := Aside0.mk (blk_below (g := gb536) (o := .cells #[.int .i64 t531, .int .i64 t532, .int .i64 t533, .int .i64 t534] 26 (0, 0)) (bp_ BK536).out hb); replace BK542 := Aside0.mk (blk_below (g := gb542) (o := .cells #[.int .i64 t537, .int .i64 t538, .int .i64 t539, .int .i64 t540] 26 (0, 0)) (bp_ BK542).out hb); replace BK551 := Aside0.mk (blk_below (g := gb551) (o := .cells #[.int .i64 t543, .int .i64 t544, .int .i64 t545, .int .i64 t546] 26 (0, 0)) (bp_ BK551).out hb); replace BK552 := Aside0.mk (blk_below (g := gb552) (o := .cells #[.int .i64 t547, .int .i64 t548, .int .i64 t549, .int .i64 t550] 26 (0, 0)) (bp_ BK552).out hb); replace HB := bt_ HB hb; (try clear hb); (try clear hg5_0 hg5_1 hg5_2 hg5_3 hg5_4 hg5_5 hg5_6 hg5_7); (try clear hg6_0 hg6_1 hg6_2 hg6_3 hg6_4 hg6_5 hg6_6 hg6_7); (try clear hg7_0 hg7_1 hg7_2 hg7_3 hg7_4 hg7_5 hg7_6 hg7_7); (try clear hg8_0 hg8_1 hg8_2 hg8_3 hg8_4 hg8_5 hg8_6 hg8_7); (try clear hg9_0 hg9_1 hg9_2 hg9_3 hg9_4 hg9_5 hg9_6 hg9_7); (try clear hg10_0 hg10_1 hg10_2 hg10_3 hg10_4 hg10_5 hg10_6 hg10_7); (try clear hg11_0 hg11_1 hg11_2 hg11_3 hg11_4 hg11_5 hg11_6 hg11_7); (try clear hg12_0 hg12_1 hg12_2 hg12_3 hg12_4 hg12_5 hg12_6 hg12_7); (try clear hg13_0 hg13_1 hg13_2 hg13_3 hg13_4 hg13_5 hg13_6 hg13_7); (try clear hg14_0 hg14_1 hg14_2 hg14_3 hg14_4 hg14_5 hg14_6 hg14_7); (try clear hg15_0 hg15_1 hg15_2 hg15_3 hg15_4 hg15_5 hg15_6 hg15_7); (try clear hg16_0 hg16_1 hg16_2 hg16_3 hg16_4 hg16_5 hg16_6 hg16_7); (try clear hg17_0 hg17_1 hg17_2 hg17_3 hg17_4 hg17_5 hg17_6 hg17_7); (try clear hg18_0 hg18_1 hg18_2 hg18_3 hg18_4 hg18_5 hg18_6 hg18_7); (try clear hg19_0 hg19_1 hg19_2 hg19_3 hg19_4 hg19_5 hg19_6 hg19_7); obtain ⟨hcz194_0, hcz194_1, hcz194_2, hcz194_3, hfz194_0, hfz194_1, hfz194_2, hfz194_3⟩ := ch4_ BK551; obtain ⟨hcz195_0, hcz195_1, hcz195_2, hcz195_3, hfz195_0, hfz195_1, hfz195_2, hfz195_3⟩ := ch4_ BK552) | ((with_reducible refine gc_ 21 ?_); refine ge_ 162 Try.func21 #[.agg #[.int .i64 t543, .int .i64 t544, .int .i64 t545, .int .i64 t546], .agg #[.int .i64 t547, .int .i64 t548, .int .i64 t549, .int .i64 t550]] ?_; (with_reducible refine (spec_AreSameMatrices.calls k t543 t544 t545 t546 t547 t548 t549 t550 t555 t556 _ A29.out).mono ?_); rintro e w196 ⟨rfl, hb⟩; refine ⟨_, rfl, ?_⟩; replace BK475 := bb_ BK475 hb; replace BK476 := bb_ BK476 hb; replace BK482 := bb_ BK482 hb; replace BK488 := bb_ BK488 hb; replace BK495 := bb_ BK495 hb; replace BK501 := bb_ BK501 hb; replace BK507 := bb_ BK507 hb; replace BK512 := bb_ BK512 hb; replace BK518 := bb_ BK518 hb; replace BK524 := bb_ BK524 hb; replace BK530 := bb_ BK530 hb; replace BK536 := bb_ BK536 hb; replace BK542 := bb_ BK542 hb; replace BK551 := bb_ BK551 hb; replace BK552 := bb_ BK552 hb; replace HB := bt_ HB hb; (try clear hb))) | ((with_reducible refine gn_ ?_); first | ((with_reducible refine gd_ 9 ?_); refine by_ 9 #[.int .i64 0, .int .i64 0, .int .i64 0, .int .i64 0] 26 HB ?_; intro gb495 hg w57 BK495 hb GW495 HB_; have NB475_495 := bm_ BK475 hg; have NB495_475 := bn_ BK475 hg; have NB476_495 := bm_ BK476 hg; have NB495_476 := bn_ BK476 hg; have NB482_495 := bm_ BK482 hg; have NB495_482 := bn_ BK482 hg; have NB488_495 := bm_ BK488 hg; have NB495_488 := bn_ BK488 hg; replace BK475 := bb_ BK475 hb; replace BK476 := bb_ BK476 hb; replace BK482 := bb_ BK482 hb; replace BK488 := bb_ BK488 hb; replace HB := HB_; clear hb hg; obtain ⟨hcz62_0, hcz62_1, hcz62_2, hcz62_3, hfz62_0, hfz62_1, hfz62_2, hfz62_3⟩ := ch4_ BK495) | ((with_reducible refine gd_ 10 ?_); refine by_ 10 #[.int .i64 0, .int .i64 0, .int .i64 0, .int .i64 0] 26 HB ?_; intro gb501 hg w64 BK501 hb GW501 HB_; have NB475_501 := bm_ BK475 hg; have NB501_475 := bn_ BK475 hg; have NB476_501 := bm_ BK476 hg; have NB501_476 := bn_ BK476 hg; have NB482_501 := bm_ BK482 hg; have NB501_482 := bn_ BK482 hg; have NB488_501 := bm_ BK488 hg; have NB501_488 := bn_ BK488 hg; have NB495_501 := bm_ BK495 hg; have NB501_495 := bn_ BK495 hg; replace BK475 := bb_ BK475 hb; replace BK476 := bb_ BK476 hb; replace BK482 := bb_ BK482 hb; replace BK488 := bb_ BK488 hb; replace BK495 := bb_ BK495 hb; replace HB := HB_; clear hb hg; have hnb69 := NB501_495.out; have hnc69 := NB495_501.out; (try clear hcz62_0 hcz62_1 hcz62_2 hcz62_3 hfz62_0 hfz62_1 hfz62_2 hfz62_3); obtain ⟨hcz70_0, hcz70_1, hcz70_2, hcz70_3, hfz70_0, hfz70_1, hfz70_2, hfz70_3⟩ := ch4_ BK501; obtain ⟨hcz71_0, hcz71_1, hcz71_2, hcz71_3, hfz71_0, hfz71_1, hfz71_2, hfz71_3⟩ := ch4_ BK495) | ((with_reducible refine gd_ 12 ?_); refine by_ 12 #[.int .i64 0, .int .i64 0, .int .i64 0, .int .i64 0] 26 HB ?_; intro gb507 hg w73 BK507 hb GW507 HB_; have NB475_507 := bm_ BK475 hg; have NB507_475 := bn_ BK475 hg; have NB476_507 := bm_ BK476 hg; have NB507_476 := bn_ BK476 hg; have NB482_507 := bm_ BK482 hg; have NB507_482 := bn_ BK482 hg; have NB488_507 := bm_ BK488 hg; have NB507_488 := bn_ BK488 hg; have NB495_507 := bm_ BK495 hg; have NB507_495 := bn_ BK495 hg; have NB501_507 := bm_ BK501 hg; have NB507_501 := bn_ BK501 hg; replace BK475 := bb_ BK475 hb; replace BK476 := bb_ BK476 hb; replace BK482 := bb_ BK482 hb; replace BK488 := bb_ BK488 hb; replace BK495 := bb_ BK495 hb; replace BK501 := bb_ BK501 hb; replace HB := HB_; clear hb hg; have hnb79 := NB507_501.out; have hnc79 := NB501_507.out; (try clear hcz70_0 hcz70_1 hcz70_2 hcz70_3 hfz70_0 hfz70_1 hfz70_2 hfz70_3); (try clear hcz71_0 hcz71_1 hcz71_2 hcz71_3 hfz71_0 hfz71_1 hfz71_2 hfz71_3); obtain ⟨hcz80_0, hcz80_1, hcz80_2, hcz80_3, hfz80_0, hfz80_1, hfz80_2, hfz80_3⟩ := ch4_ BK507; obtain ⟨hcz81_0, hcz81_1, hcz81_2, hcz81_3, hfz81_0, hfz81_1, hfz81_2, hfz81_3⟩ := ch4_ BK501) | ((with_reducible refine gd_ 14 ?_); refine by_ 14 #[.int .i64 0, .int .i64 0, .int .i64 0, .int .i64 0] 26 HB ?_; intro gb512 hg w83 BK512 hb GW512 HB_; have NB475_512 := bm_ BK475 hg; have NB512_475 := bn_ BK475 hg; have NB476_512 := bm_ BK476 hg; have NB512_476 := bn_ BK476 hg; have NB482_512 := bm_ BK482 hg; have NB512_482 := bn_ BK482 hg; have NB488_512 := bm_ BK488 hg; have NB512_488 := bn_ BK488 hg; have NB495_512 := bm_ BK495 hg; have NB512_495 := bn_ BK495 hg; have NB501_512 := bm_ BK501 hg; have NB512_501 := bn_ BK501 hg; have NB507_512 := bm_ BK507 hg; have NB512_507 := bn_ BK507 hg; replace BK475 := bb_ BK475 hb; replace BK476 := bb_ BK476 hb; replace BK482 := bb_ BK482 hb; replace BK488 := bb_ BK488 hb; replace BK495 := bb_ BK495 hb; replace BK501 := bb_ BK501 hb; replace BK507 := bb_ BK507 hb; replace HB := HB_; clear hb hg; (try clear hcz80_0 hcz80_1 hcz80_2 hcz80_3 hfz80_0 hfz80_1 hfz80_2 hfz80_3); (try clear hcz81_0 hcz81_1 hcz81_2 hcz81_3 hfz81_0 hfz81_1 hfz81_2 hfz81_3); obtain ⟨hcz91_0, hcz91_1, hcz91_2, hcz91_3, hfz91_0, hfz91_1, hfz91_2, hfz91_3⟩ := ch4_ BK512) | ((with_reducible refine gd_ 15 ?_); refine by_ 15 #[.int .i64 0, .int .i64 0, .int .i64 0, .int .i64 0] 26 HB ?_; intro gb518 hg w93 BK518 hb GW518 HB_; have NB475_518 := bm_ BK475 hg; have NB518_475 := bn_ BK475 hg; have NB476_518 := bm_ BK476 hg; have NB518_476 := bn_ BK476 hg; have NB482_518 := bm_ BK482 hg; have NB518_482 := bn_ BK482 hg; have NB488_518 := bm_ BK488 hg; have NB518_488 := bn_ BK488 hg; have NB495_518 := bm_ BK495 hg; have NB518_495 := bn_ BK495 hg; have NB501_518 := bm_ BK501 hg; have NB518_501 := bn_ BK501 hg; have NB507_518 := bm_ BK507 hg; have NB518_507 := bn_ BK507 hg; have NB512_518 := bm_ BK512 hg; have NB518_512 := bn_ BK512 hg; replace BK475 := bb_ BK475 hb; replace BK476 := bb_ BK476 hb; replace BK482 := bb_ BK482 hb; replace BK488 := bb_ BK488 hb; replace BK495 := bb_ BK495 hb; replace BK501 := bb_ BK501 hb; replace BK507 := bb_ BK507 hb; replace BK512 := bb_ BK512 hb; replace HB := HB_; clear hb hg; have hnb101 := NB518_512.out; have hnc101 := NB512_518.out; (try clear hcz91_0 hcz91_1 hcz91_2 hcz91_3 hfz91_0 hfz91_1 hfz91_2 hfz91_3); obtain ⟨hcz102_0, hcz102_1, hcz102_2, hcz102_3, hfz102_0, hfz102_1, hfz102_2, hfz102_3⟩ := ch4_ BK518; obtain ⟨hcz103_0, hcz103_1, hcz103_2, hcz103_3, hfz103_0, hfz103_1, hfz103_2, hfz103_3⟩ := ch4_ BK512) | ((with_reducible refine gd_ 17 ?_); refine by_ 17 #[.int .i64 0, .int .i64 0, .int .i64 0, .int .i64 0] 26 HB ?_; intro gb524 hg w105 BK524 hb GW524 HB_; have NB475_524 := bm_ BK475 hg; have NB524_475 := bn_ BK475 hg; have NB476_524 := bm_ BK476 hg; have NB524_476 := bn_ BK476 hg; have NB482_524 := bm_ BK482 hg; have NB524_482 := bn_ BK482 hg; have NB488_524 := bm_ BK488 hg; have NB524_488 := bn_ BK488 hg; have NB495_524 := bm_ BK495 hg; have NB524_495 := bn_ BK495 hg; have NB501_524 := bm_ BK501 hg; have NB524_501 := bn_ BK501 hg; have NB507_524 := bm_ BK507 hg; have NB524_507 := bn_ BK507 hg; have NB512_524 := bm_ BK512 hg; have NB524_512 := bn_ BK512 hg; have NB518_524 := bm_ BK518 hg; have NB524_518 := bn_ BK518 hg; replace BK475 := bb_ BK475 hb; replace BK476 := bb_ BK476 hb; replace BK482 := bb_ BK482 hb; replace BK488 := bb_ BK488 hb; replace BK495 := bb_ BK495 hb; replace BK501 := bb_ BK501 hb; replace BK507 := bb_ BK507 hb; replace BK512 := bb_ BK512 hb; replace BK518 := bb_ BK518 hb; replace HB := HB_; clear hb hg; have hnb114 := NB524_518.out; have hnc114 := NB518_524.out; (try clear hcz102_0 hcz102_1 hcz102_2 hcz102_3 hfz102_0 hfz102_1 hfz102_2 hfz102_3); (try clear hcz103_0 hcz103_1 hcz103_2 hcz103_3 hfz103_0 hfz103_1 hfz103_2 hfz103_3); obtain ⟨hcz115_0, hcz115_1, hcz115_2, hcz115_3, hfz115_0, hfz115_1, hfz115_2, hfz115_3⟩ := ch4_ BK524; obtain ⟨hcz116_0, hcz116_1, hcz116_2, hcz116_3, hfz116_0, hfz116_1, hfz116_2, hfz116_3⟩ := ch4_ BK518) | ((with_reducible refine gd_ 19 ?_); refine by_ 19 #[.int .i64 0, .int .i64 0, .int .i64 0, .int .i64 0] 26 HB ?_; intro gb530 hg w118 BK530 hb GW530 HB_; have NB475_530 := bm_ BK475 hg; have NB530_475 := bn_ BK475 hg; have NB476_530 := bm_ BK476 hg; have NB530_476 := bn_ BK476 hg; have NB482_530 := bm_ BK482 hg; have NB530_482 := bn_ BK482 hg; have NB488_530 := bm_ BK488 hg; have NB530_488 := bn_ BK488 hg; have NB495_530 := bm_ BK495 hg; have NB530_495 := bn_ BK495 hg; have NB501_530 := bm_ BK501 hg; have NB530_501 := bn_ BK501 hg; have NB507_530 := bm_ BK507 hg; have NB530_507 := bn_ BK507 hg; have NB512_530 := bm_ BK512 hg; have NB530_512 := bn_ BK512 hg; have NB518_530 := bm_ BK518 hg; have NB530_518 := bn_ BK518 hg; have NB524_530 := bm_ BK524 hg; have NB530_524 := bn_ BK524 hg; replace BK475 := bb_ BK475 hb; replace BK476 := bb_ BK476 hb; replace BK482 := bb_ BK482 hb; replace BK488 := bb_ BK488 hb; replace BK495 := bb_ BK495 hb; replace BK501 := bb_ BK501 hb; replace BK507 := bb_ BK507 hb; replace BK512 := bb_ BK512 hb; replace BK518 := bb_ BK518 hb; replace BK524 := bb_ BK524 hb; replace HB := HB_; clear hb hg; (try clear hcz115_0 hcz115_1 hcz115_2 hcz115_3 hfz115_0 hfz115_1 hfz115_2 hfz115_3); (try clear hcz116_0 hcz116_1 hcz116_2 hcz116_3 hfz116_0 hfz116_1 hfz116_2 hfz116_3); obtain ⟨hcz129_0, hcz129_1, hcz129_2, hcz129_3, hfz129_0, hfz129_1, hfz129_2, hfz129_3⟩ := ch4_ BK530) | ((with_reducible refine gd_ 21 ?_); refine by_ 21 #[.int .i64 0, .int .i64 0, .int .i64 0, .int .i64 0] 26 HB ?_; intro gb536 hg w131 BK536 hb GW536 HB_; have NB475_536 := bm_ BK475 hg; have NB536_475 := bn_ BK475 hg; have NB476_536 := bm_ BK476 hg; have NB536_476 := bn_ BK476 hg; have NB482_536 := bm_ BK482 hg; have NB536_482 := bn_ BK482 hg; have NB488_536 := bm_ BK488 hg; have NB536_488 := bn_ BK488 hg; have NB495_536 := bm_ BK495 hg; have NB536_495 := bn_ BK495 hg; have NB501_536 := bm_ BK501 hg; have NB536_501 := bn_ BK501 hg; have NB507_536 := bm_ BK507 hg; have NB536_507 := bn_ BK507 hg; have NB512_536 := bm_ BK512 hg; have NB536_512 := bn_ BK512 hg; have NB518_536 := bm_ BK518 hg; have NB536_518 := bn_ BK518 hg; have NB524_536 := bm_ BK524 hg; have NB536_524 := bn_ BK524 hg; have NB530_536 := bm_ BK530 hg; have NB536_530 := bn_ BK530 hg; replace BK475 := bb_ BK475 hb; replace BK476 := bb_ BK476 hb; replace BK482 := bb_ BK482 hb; replace BK488 := bb_ BK488 hb; replace BK495 := bb_ BK495 hb; replace BK501 := bb_ BK501 hb; replace BK507 := bb_ BK507 hb; replace BK512 := bb_ BK512 hb; replace BK518 := bb_ BK518 hb; replace BK524 := bb_ BK524 hb; replace BK530 := bb_ BK530 hb; replace HB := HB_; clear hb hg; have hnb142 := NB536_530.out; have hnc142 := NB530_536.out; (try clear hcz129_0 hcz129_1 hcz129_2 hcz129_3 hfz129_0 hfz129_1 hfz129_2 hfz129_3); obtain ⟨hcz143_0, hcz143_1, hcz143_2, hcz143_3, hfz143_0, hfz143_1, hfz143_2, hfz143_3⟩ := ch4_ BK536; obtain ⟨hcz144_0, hcz144_1, hcz144_2, hcz144_3, hfz144_0, hfz144_1, hfz144_2, hfz144_3⟩ := ch4_ BK530) | ((with_reducible refine gd_ 23 ?_); refine by_ 23 #[.int .i64 0, .int .i64 0, .int .i64 0, .int .i64 0] 26 HB ?_; intro gb542 hg w146 BK542 hb GW542 HB_; have NB475_542 := bm_ BK475 hg; have NB542_475 := bn_ BK475 hg; have NB476_542 := bm_ BK476 hg; have NB542_476 := bn_ BK476 hg; have NB482_542 := bm_ BK482 hg; have NB542_482 := bn_ BK482 hg; have NB488_542 := bm_ BK488 hg; have NB542_488 := bn_ BK488 hg; have NB495_542 := bm_ BK495 hg; have NB542_495 := bn_ BK495 hg; have NB501_542 := bm_ BK501 hg; have NB542_501 := bn_ BK501 hg; have NB507_542 := bm_ BK507 hg; have NB542_507 := bn_ BK507 hg; have NB512_542 := bm_ BK512 hg; have NB542_512 := bn_ BK512 hg; have NB518_542 := bm_ BK518 hg; have NB542_518 := bn_ BK518 hg; have NB524_542 := bm_ BK524 hg; have NB542_524 := bn_ BK524 hg; have NB530_542 := bm_ BK530 hg; have NB542_530 := bn_ BK530 hg; have NB536_542 := bm_ BK536 hg; have NB542_536 := bn_ BK536 hg; replace BK475 := bb_ BK475 hb; replace BK476 := bb_ BK476 hb; replace BK482 := bb_ BK482 hb; replace BK488 := bb_ BK488 hb; replace BK495 := bb_ BK495 hb; replace BK501 := bb_ BK501 hb; replace BK507 := bb_ BK507 hb; replace BK512 := bb_ BK512 hb; replace BK518 := bb_ BK518 hb; replace BK524 := bb_ BK524 hb; replace BK530 := bb_ BK530 hb; replace BK536 := bb_ BK536 hb; replace HB := HB_; clear hb hg; have hnb158 := NB542_536.out; have hnc158 := NB536_542.out; (try clear hcz143_0 hcz143_1 hcz143_2 hcz143_3 hfz143_0 hfz143_1 hfz143_2 hfz143_3); (try clear hcz144_0 hcz144_1 hcz144_2 hcz144_3 hfz144_0 hfz144_1 hfz144_2 hfz144_3); obtain ⟨hcz159_0, hcz159_1, hcz159_2, hcz159_3, hfz159_0, hfz159_1, hfz159_2, hfz159_3⟩ := ch4_ BK542; obtain ⟨hcz160_0, hcz160_1, hcz160_2, hcz160_3, hfz160_0, hfz160_1, hfz160_2, hfz160_3⟩ := ch4_ BK536) | ((with_reducible refine gd_ 25 ?_); refine by_ 25 #[.int .i64 0, .int .i64 0, .int .i64 0, .int .i64 0] 26 HB ?_; intro gb551 hg w162 BK551 hb GW551 HB_; have NB475_551 := bm_ BK475 hg; have NB551_475 := bn_ BK475 hg; have NB476_551 := bm_ BK476 hg; have NB551_476 := bn_ BK476 hg; have NB482_551 := bm_ BK482 hg; have NB551_482 := bn_ BK482 hg; have NB488_551 := bm_ BK488 hg; have NB551_488 := bn_ BK488 hg; have NB495_551 := bm_ BK495 hg; have NB551_495 := bn_ BK495 hg; have NB501_551 := bm_ BK501 hg; have NB551_501 := bn_ BK501 hg; have NB507_551 := bm_ BK507 hg; have NB551_507 := bn_ BK507 hg; have NB512_551 := bm_ BK512 hg; have NB551_512 := bn_ BK512 hg; have NB518_551 := bm_ BK518 hg; have NB551_518 := bn_ BK518 hg; have NB524_551 := bm_ BK524 hg; have NB551_524 := bn_ BK524 hg; have NB530_551 := bm_ BK530 hg; have NB551_530 := bn_ BK530 hg; have NB536_551 := bm_ BK536 hg; have NB551_536 := bn_ BK536 hg; have NB542_551 := bm_ BK542 hg; have NB551_542 := bn_ BK542 hg; replace BK475 := bb_ BK475 hb; replace BK476 := bb_ BK476 hb; replace BK482 := bb_ BK482 hb; replace BK488 := bb_ BK488 hb; replace BK495 := bb_ BK495 hb; replace BK501 := bb_ BK501 hb; replace BK507 := bb_ BK507 hb; replace BK512 := bb_ BK512 hb; replace BK518 := bb_ BK518 hb; replace BK524 := bb_ BK524 hb; replace BK530 := bb_ BK530 hb; replace BK536 := bb_ BK536 hb; replace BK542 := bb_ BK542 hb; replace HB := HB_; clear hb hg) | ((with_reducible refine gd_ 26 ?_); refine by_ 26 #[.int .i64 0, .int .i64 0, .int .i64 0, .int .i64 0] 26 HB ?_; intro gb552 hg w163 BK552 hb GW552 HB_; have NB475_552 := bm_ BK475 hg; have NB552_475 := bn_ BK475 hg; have NB476_552 := bm_ BK476 hg; have NB552_476 := bn_ BK476 hg; have NB482_552 := bm_ BK482 hg; have NB552_482 := bn_ BK482 hg; have NB488_552 := bm_ BK488 hg; have NB552_488 := bn_ BK488 hg; have NB495_552 := bm_ BK495 hg; have NB552_495 := bn_ BK495 hg; have NB501_552 := bm_ BK501 hg; have NB552_501 := bn_ BK501 hg; have NB507_552 := bm_ BK507 hg; have NB552_507 := bn_ BK507 hg; have NB512_552 := bm_ BK512 hg; have NB552_512 := bn_ BK512 hg; have NB518_552 := bm_ BK518 hg; have NB552_518 := bn_ BK518 hg; have NB524_552 := bm_ BK524 hg; have NB552_524 := bn_ BK524 hg; have NB530_552 := bm_ BK530 hg; have NB552_530 := bn_ BK530 hg; have NB536_552 := bm_ BK536 hg; have NB552_536 := bn_ BK536 hg; have NB542_552 := bm_ BK542 hg; have NB552_542 := bn_ BK542 hg; have NB551_552 := bm_ BK551 hg; have NB552_551 := bn_ BK551 hg; replace BK475 := bb_ BK475 hb; replace BK476 := bb_ BK476 hb; replace BK482 := bb_ BK482 hb; replace BK488 := bb_ BK488 hb; replace BK495 := bb_ BK495 hb; replace BK501 := bb_ BK501 hb; replace BK507 := bb_ BK507 hb; replace BK512 := bb_ BK512 hb; replace BK518 := bb_ BK518 hb; replace BK524 := bb_ BK524 hb; replace BK530 := bb_ BK530 hb; replace BK536 := bb_ BK536 hb; replace BK542 := bb_ BK542 hb; replace BK551 := bb_ BK551 hb; replace HB := HB_; clear hb hg; have hnb177 := NB551_552.out; have hnc177 := NB552_551.out; (try clear hcz159_0 hcz159_1 hcz159_2 hcz159_3 hfz159_0 hfz159_1 hfz159_2 hfz159_3); (try clear hcz160_0 hcz160_1 hcz160_2 hcz160_3 hfz160_0 hfz160_1 hfz160_2 hfz160_3); obtain ⟨hcz178_0, hcz178_1, hcz178_2, hcz178_3, hfz178_0, hfz178_1, hfz178_2, hfz178_3⟩ := ch4_ BK551; obtain ⟨hcz192_0, hcz192_1, hcz192_2, hcz192_3, hfz192_0, hfz192_1, hfz192_2, hfz192_3⟩ := ch4_ BK552)))
 (try simp only [Act.put, lstS, lstZ, lstC])
 go_cut [] (fun wc => ∃ (kq : Nat), Aside0 (laws_FnMatrices.j0 kq t481 t517 t529 t535 t467 t468 t469 t470 t471 t472 t473 t474 t477 t478 t479 t480 t508 t509 t510 t511 t513 t514 t515 t516 t525 t526 t527 t528 t531 t532 t533 t534 = some r) ∧ Aside0 (kq ≤ k) ∧ Aside0 (wc.heap[gb475]? = some (.cells #[.int .i64 t467, .int .i64 t468, .int .i64 t469, .int .i64 t470] 26 (0, 0))) ∧ Aside0 (wc.heap[gb476]? = some (.cells #[.int .i64 t471, .int .i64 t472, .int .i64 t473, .int .i64 t474] 26 (0, 0))) ∧ Aside0 (wc.heap[gb482]? = some (.cells #[.int .i64 t477, .int .i64 t478, .int .i64 t479, .int .i64 t480] 26 (0, 0))) ∧ Aside0 (wc.heap[gb488]? = some (.cells #[.int .i64 t483, .int .i64 t484, .int .i64 t485, .int .i64 t486] 26 (0, 0))) ∧ Aside0 (wc.heap[gb495]? = some (.cells #[.int .i64 t491, .int .i64 t492, .int .i64 t493, .int .i64 t494] 26 (0, 0))) ∧ Aside0 (wc.heap[gb501]? = some (.cells #[.int .i64 t496, .int .i64 t497, .int .i64 t498, .int .i64 t499] 26 (0, 0))) ∧ Aside0 (wc.heap[gb507]? = some (.cells #[.int .i64 t502, .int .i64 t503, .int .i64 t504, .int .i64 t505] 26 (0, 0))) ∧ Aside0 (wc.heap[gb512]? = some (.cells #[.int .i64 t508, .int .i64 t509, .int .i64 t510, .int .i64 t511] 26 (0, 0))) ∧ Aside0 (wc.heap[gb518]? = some (.cells #[.int .i64 t513, .int .i64 t514, .int .i64 t515, .int .i64 t516] 26 (0, 0))) ∧ Aside0 (wc.heap[gb524]? = some (.cells #[.int .i64 t519, .int .i64 t520, .int .i64 t521, .int .i64 t522] 26 (0, 0))) ∧ Aside0 (wc.heap[gb530]? = some (.cells #[.int .i64 t525, .int .i64 t526, .int .i64 t527, .int .i64 t528] 26 (0, 0))) ∧ Aside0 (wc.heap[gb536]? = some (.cells #[.int .i64 t531, .int .i64 t532, .int .i64 t533, .int .i64 t534] 26 (0, 0))) ∧ Aside0 (wc.heap[gb542]? = some (.cells #[.int .i64 t537, .int .i64 t538, .int .i64 t539, .int .i64 t540] 26 (0, 0))) ∧ Aside0 (wc.heap[gb551]? = some (.cells #[.int .i64 t543, .int .i64 t544, .int .i64 t545, .int .i64 t546] 26 (0, 0))) ∧ Aside0 (wc.heap[gb552]? = some (.cells #[.int .i64 t547, .int .i64 t548, .int .i64 t549, .int .i64 t550] 26 (0, 0))) ∧ Aside0 (Below w.heap.size w wc))
 case first => as_aux_lemma =>
  have H := HC32.out
  clear HC32
  replace H := ie_ H
  rcases H with ⟨c197b0, c197b1, H⟩ | ⟨c197, c197b0, c197b1, H⟩
  ·(first | rw [c197b0] | (simp only [i64_w, i32_w]; rw [c197b0]) | skip)
   replace H := oc_ H
   obtain ⟨⟨t557, t558⟩, A198, H⟩ := H
   replace H := ien_ H
   obtain ⟨c199b0, c199b1, H⟩ := H
   replace H := ibn_ H
   obtain ⟨rfl, H⟩ := H
   replace H := oc_ H
   obtain ⟨t559, A201, H⟩ := H
   replace H := ibn_ H
   obtain ⟨rfl, H⟩ := H
   have H' := Aside0.mk H
   clear H
   have hnb207 := NB495_501.out
   have hnc207 := NB501_495.out
   obtain ⟨hcz217_0, hcz217_1, hcz217_2, hcz217_3, hfz217_0, hfz217_1, hfz217_2, hfz217_3⟩ := ch4_ BK495
   obtain ⟨hcz231_0, hcz231_1, hcz231_2, hcz231_3, hfz231_0, hfz231_1, hfz231_2, hfz231_3⟩ := ch4_ BK501
   go_wp2_with (first | ((with_reducible refine gc_ 20 ?_); refine ge_ 178 Try.func20 #[.agg #[.int .i64 t491, .int .i64 t492, .int .i64 t493, .int .i64 t494], .agg #[.int .i64 t496, .int .i64 t497, .int .i64 t498, .int .i64 t499]] ?_; (with_reducible refine (impl_AreSameMatrices.calls k t491 t492 t493 t494 t496 t497 t498 t499 true t558 _ A198.out).mono ?_); rintro e w232 ⟨rfl, hb⟩; refine ⟨_, rfl, ?_⟩; replace BK475 := bb_ BK475 hb; replace BK476 := bb_ BK476 hb; replace BK482 := bb_ BK482 hb; replace BK488 := bb_ BK488 hb; replace BK495 := bb_ BK495 hb; replace BK501 := bb_ BK501 hb; replace BK507 := bb_ BK507 hb; replace BK512 := bb_ BK512 hb; replace BK518 := bb_ BK518 hb; replace BK524 := bb_ BK524 hb; replace BK530 := bb_ BK530 hb; replace BK536 := bb_ BK536 hb; replace BK542 := bb_ BK542 hb; replace BK551 := bb_ BK551 hb; replace BK552 := bb_ BK552 hb; replace HB := bt_ HB hb; (try clear hb); obtain ⟨hcz233_0, hcz233_1, hcz233_2, hcz233_3, hfz233_0, hfz233_1, hfz233_2, hfz233_3⟩ := ch4_ BK501) | (go_at_call 8; (with_reducible refine (impl_IsMatrix.calls k t496 t497 t498 t499 true _ A201.out).mono ?_); rintro e w234 ⟨rfl, hb⟩; replace BK475 := bb_ BK475 hb; replace BK476 := bb_ BK476 hb; replace BK482 := bb_ BK482 hb; replace BK488 := bb_ BK488 hb; replace BK495 := bb_ BK495 hb; replace BK501 := bb_ BK501 hb; replace BK507 := bb_ BK507 hb; replace BK512 := bb_ BK512 hb; replace BK518 := bb_ BK518 hb; replace BK524 := bb_ BK524 hb; replace BK530 := bb_ BK530 hb; replace BK536 := bb_ BK536 hb; replace BK542 := bb_ BK542 hb; replace BK551 := bb_ BK551 hb; replace BK552 := bb_ BK552 hb; replace HB := bt_ HB hb; (try clear hb)))
   go_meet
   case rel => exact ⟨_, H', ⟨by first | omega | exact Nat.le_refl _⟩, bl_ BK475, bl_ BK476, bl_ BK482, bl_ BK488, bl_ BK495, bl_ BK501, bl_ BK507, bl_ BK512, bl_ BK518, bl_ BK524, bl_ BK530, bl_ BK536, bl_ BK542, bl_ BK551, bl_ BK552, bw_ HB⟩
  (first | rw [c197b0] | (simp only [i64_w, i32_w]; rw [c197b0]) | skip)
  have H' := Aside0.mk H
  clear H
  go_wp2
  go_meet
  case rel => exact ⟨_, H', ⟨by first | omega | exact Nat.le_refl _⟩, bl_ BK475, bl_ BK476, bl_ BK482, bl_ BK488, bl_ BK495, bl_ BK501, bl_ BK507, bl_ BK512, bl_ BK518, bl_ BK524, bl_ BK530, bl_ BK536, bl_ BK542, bl_ BK551, bl_ BK552, bw_ HB⟩
 case rest => as_aux_lemma =>
  clear HC32
  try clear c7b0
  try clear c7b1
  try clear c8
  try clear c8b0
  try clear c11
  try clear c11b0
  try clear c11b1
  try clear c11b2
  try clear c15b0
  try clear c15b1
  try clear c16
  try clear c16b0
  try clear c20b0
  try clear c20b1
  try clear c21
  try clear c21b0
  try clear c25b0
  try clear c25b1
  try clear c26
  try clear c26b0
  try clear c30b0
  try clear c30b1
  try clear c31
  try clear c31b0
  try clear c31b1
  try clear c31b2
  try clear c197
  try clear c197b0
  try clear c197b1
  try clear c199b0
  try clear c199b1
  try clear hcz102_0 hcz102_1 hcz102_2 hcz102_3
  try clear hcz103_0 hcz103_1 hcz103_2 hcz103_3
  try clear hcz115_0 hcz115_1 hcz115_2 hcz115_3
  try clear hcz116_0 hcz116_1 hcz116_2 hcz116_3
  try clear hcz129_0 hcz129_1 hcz129_2 hcz129_3
  try clear hcz143_0 hcz143_1 hcz143_2 hcz143_3
  try clear hcz144_0 hcz144_1 hcz144_2 hcz144_3
  try clear hcz159_0 hcz159_1 hcz159_2 hcz159_3
  try clear hcz160_0 hcz160_1 hcz160_2 hcz160_3
  try clear hcz178_0 hcz178_1 hcz178_2 hcz178_3
  try clear hcz192_0 hcz192_1 hcz192_2 hcz192_3
  try clear hcz194_0 hcz194_1 hcz194_2 hcz194_3
  try clear hcz195_0 hcz195_1 hcz195_2 hcz195_3
  try clear hcz217_0 hcz217_1 hcz217_2 hcz217_3
  try clear hcz231_0 hcz231_1 hcz231_2 hcz231_3
  try clear hcz233_0 hcz233_1 hcz233_2 hcz233_3
  try clear hcz37_0 hcz37_1 hcz37_2 hcz37_3
  try clear hcz38_0 hcz38_1 hcz38_2 hcz38_3
  try clear hcz43_0 hcz43_1 hcz43_2 hcz43_3
  try clear hcz44_0 hcz44_1 hcz44_2 hcz44_3
  try clear hcz45_0 hcz45_1 hcz45_2 hcz45_3
  try clear hcz51_0 hcz51_1 hcz51_2 hcz51_3
  try clear hcz62_0 hcz62_1 hcz62_2 hcz62_3
  try clear hcz70_0 hcz70_1 hcz70_2 hcz70_3
  try clear hcz71_0 hcz71_1 hcz71_2 hcz71_3
  try clear hcz80_0 hcz80_1 hcz80_2 hcz80_3
  try clear hcz81_0 hcz81_1 hcz81_2 hcz81_3
  try clear hcz91_0 hcz91_1 hcz91_2 hcz91_3
  try clear hfz102_0 hfz102_1 hfz102_2 hfz102_3
  try clear hfz103_0 hfz103_1 hfz103_2 hfz103_3
  try clear hfz115_0 hfz115_1 hfz115_2 hfz115_3
  try clear hfz116_0 hfz116_1 hfz116_2 hfz116_3
  try clear hfz129_0 hfz129_1 hfz129_2 hfz129_3
  try clear hfz143_0 hfz143_1 hfz143_2 hfz143_3
  try clear hfz144_0 hfz144_1 hfz144_2 hfz144_3
  try clear hfz159_0 hfz159_1 hfz159_2 hfz159_3
  try clear hfz160_0 hfz160_1 hfz160_2 hfz160_3
  try clear hfz178_0 hfz178_1 hfz178_2 hfz178_3
  try clear hfz192_0 hfz192_1 hfz192_2 hfz192_3
  try clear hfz194_0 hfz194_1 hfz194_2 hfz194_3
  try clear hfz195_0 hfz195_1 hfz195_2 hfz195_3
  try clear hfz217_0 hfz217_1 hfz217_2 hfz217_3
  try clear hfz231_0 hfz231_1 hfz231_2 hfz231_3
  try clear hfz233_0 hfz233_1 hfz233_2 hfz233_3
  try clear hfz37_0 hfz37_1 hfz37_2 hfz37_3
  try clear hfz38_0 hfz38_1 hfz38_2 hfz38_3
  try clear hfz43_0 hfz43_1 hfz43_2 hfz43_3
  try clear hfz44_0 hfz44_1 hfz44_2 hfz44_3
  try clear hfz45_0 hfz45_1 hfz45_2 hfz45_3
  try clear hfz51_0 hfz51_1 hfz51_2 hfz51_3
  try clear hfz62_0 hfz62_1 hfz62_2 hfz62_3
  try clear hfz70_0 hfz70_1 hfz70_2 hfz70_3
  try clear hfz71_0 hfz71_1 hfz71_2 hfz71_3
  try clear hfz80_0 hfz80_1 hfz80_2 hfz80_3
  try clear hfz81_0 hfz81_1 hfz81_2 hfz81_3
  try clear hfz91_0 hfz91_1 hfz91_2 hfz91_3
  obtain ⟨kq, HA, HJ31, BK475, BK476, BK482, BK488, BK495, BK501, BK507, BK512, BK518, BK524, BK530, BK536, BK542, BK551, BK552, HB⟩ := hcut
  cases kq with
  | zero => exact absurd HA.out (by simp [laws_FnMatrices.j0])
  | succ kj31 =>
   have H := HA.out
   clear HA
   simp only [laws_FnMatrices.j0] at H
   have HC235 := Aside0.mk H
   clear H
   go_upto_if 193 with (fail)
   go_cut [] (fun wc => ∃ (kq : Nat), Aside0 (laws_FnMatrices.j1 kq t481 t529 t535 t467 t468 t469 t470 t471 t472 t473 t474 t477 t478 t479 t480 t525 t526 t527 t528 t531 t532 t533 t534 = some r) ∧ Aside0 (kq ≤ kj31) ∧ Aside0 (wc.heap[gb475]? = some (.cells #[.int .i64 t467, .int .i64 t468, .int .i64 t469, .int .i64 t470] 26 (0, 0))) ∧ Aside0 (wc.heap[gb476]? = some (.cells #[.int .i64 t471, .int .i64 t472, .int .i64 t473, .int .i64 t474] 26 (0, 0))) ∧ Aside0 (wc.heap[gb482]? = some (.cells #[.int .i64 t477, .int .i64 t478, .int .i64 t479, .int .i64 t480] 26 (0, 0))) ∧ Aside0 (wc.heap[gb488]? = some (.cells #[.int .i64 t483, .int .i64 t484, .int .i64 t485, .int .i64 t486] 26 (0, 0))) ∧ Aside0 (wc.heap[gb495]? = some (.cells #[.int .i64 t491, .int .i64 t492, .int .i64 t493, .int .i64 t494] 26 (0, 0))) ∧ Aside0 (wc.heap[gb501]? = some (.cells #[.int .i64 t496, .int .i64 t497, .int .i64 t498, .int .i64 t499] 26 (0, 0))) ∧ Aside0 (wc.heap[gb507]? = some (.cells #[.int .i64 t502, .int .i64 t503, .int .i64 t504, .int .i64 t505] 26 (0, 0))) ∧ Aside0 (wc.heap[gb512]? = some (.cells #[.int .i64 t508, .int .i64 t509, .int .i64 t510, .int .i64 t511] 26 (0, 0))) ∧ Aside0 (wc.heap[gb518]? = some (.cells #[.int .i64 t513, .int .i64 t514, .int .i64 t515, .int .i64 t516] 26 (0, 0))) ∧ Aside0 (wc.heap[gb524]? = some (.cells #[.int .i64 t519, .int .i64 t520, .int .i64 t521, .int .i64 t522] 26 (0, 0))) ∧ Aside0 (wc.heap[gb530]? = some (.cells #[.int .i64 t525, .int .i64 t526, .int .i64 t527, .int .i64 t528] 26 (0, 0))) ∧ Aside0 (wc.heap[gb536]? = some (.cells #[.int .i64 t531, .int .i64 t532, .int .i64 t533, .int .i64 t534] 26 (0, 0))) ∧ Aside0 (wc.heap[gb542]? = some (.cells #[.int .i64 t537, .int .i64 t538, .int .i64 t539, .int .i64 t540] 26 (0, 0))) ∧ Aside0 (wc.heap[gb551]? = some (.cells #[.int .i64 t543, .int .i64 t544, .int .i64 t545, .int .i64 t546] 26 (0, 0))) ∧ Aside0 (wc.heap[gb552]? = some (.cells #[.int .i64 t547, .int .i64 t548, .int .i64 t549, .int .i64 t550] 26 (0, 0))) ∧ Aside0 (Below w.heap.size w wc))
   case first => as_aux_lemma =>
    have H := HC235.out
    clear HC235
    replace H := ie_ H
    rcases H with ⟨c236b0, c236b1, H⟩ | ⟨c236, c236b0, c236b1, H⟩
    ·(first | rw [c236b0] | (simp only [i64_w, i32_w]; rw [c236b0]) | skip)
     replace H := oc_ H
     obtain ⟨⟨t560, t561, t562, t563, t564⟩, A237, H⟩ := H
     replace H := oc_ H
     obtain ⟨⟨t566, t567, t568, t569, t570⟩, A238, H⟩ := H
     replace H := oc_ H
     obtain ⟨⟨t572, t573, t574, t575, t576⟩, A239, H⟩ := H
     replace H := ien_ H
     obtain ⟨c240b0, c240b1, H⟩ := H
     by_cases c241 : ((!(t560 == 1) || (!(t561 == 0))) || ((!(t562 == 0) || (!(t563 == 1))))) = true
     ·rw [if_pos c241] at H
      exact absurd H (by simp)
     rw [if_neg c241] at H
     have c241b0 : ((!(t560 == 1) || (!(t561 == 0))) || ((!(t562 == 0) || (!(t563 == 1))))) = false := by simpa using c241
     clear c241
     replace H := ien_ H
     obtain ⟨c242b0, c242b1, H⟩ := H
     replace H := ien_ H
     obtain ⟨c243b0, c243b1, H⟩ := H
     by_cases c244 : ((!(t566 == t572) || (!(t567 == t573))) || ((!(t568 == t574) || (!(t569 == t575))))) = true
     ·rw [if_pos c244] at H
      exact absurd H (by simp)
     rw [if_neg c244] at H
     have c244b0 : ((!(t566 == t572) || (!(t567 == t573))) || ((!(t568 == t574) || (!(t569 == t575))))) = false := by simpa using c244
     clear c244
     have H' := Aside0.mk H
     clear H
     have hnb252 := NB512_518.out
     have hnc252 := NB518_512.out
     obtain ⟨hcz259_0, hcz259_1, hcz259_2, hcz259_3, hfz259_0, hfz259_1, hfz259_2, hfz259_3⟩ := ch4_ BK512
     obtain ⟨hcz273_0, hcz273_1, hcz273_2, hcz273_3, hfz273_0, hfz273_1, hfz273_2, hfz273_3⟩ := ch4_ BK518
     go_wp2_with (first | ((with_reducible refine gk_ ?_); first | ((with_reducible refine gc_ 6 ?_); refine ge_ 197 Try.func6 #[.agg #[.int .i64 t508, .int .i64 t509, .int .i64 t510, .int .i64 t511], .agg #[.int .i64 t513, .int .i64 t514, .int .i64 t515, .int .i64 t516]] ?_; (with_reducible refine (impl_MultiplyMatrices.calls kj31 t508 t509 t510 t511 t513 t514 t515 t516 t560 t561 t562 t563 t564 _ A237.out).mono ?_); rintro e w274 ⟨rfl, hb⟩; refine ⟨_, rfl, ?_⟩; replace BK475 := bb_ BK475 hb; replace BK476 := bb_ BK476 hb; replace BK482 := bb_ BK482 hb; replace BK488 := bb_ BK488 hb; replace BK495 := bb_ BK495 hb; replace BK501 := bb_ BK501 hb; replace BK507 := bb_ BK507 hb; replace BK512 := bb_ BK512 hb; replace BK518 := bb_ BK518 hb; replace BK524 := bb_ BK524 hb; replace BK530 := bb_ BK530 hb; replace BK536 := bb_ BK536 hb; replace BK542 := bb_ BK542 hb; replace BK551 := bb_ BK551 hb; replace BK552 := bb_ BK552 hb; replace HB := bt_ HB hb; (try clear hb)) | ((with_reducible refine gc_ 14 ?_); refine ge_ 202 Try.func14 #[.agg #[.int .i64 t513, .int .i64 t514, .int .i64 t515, .int .i64 t516]] ?_; (with_reducible refine (impl_InverseMatrix.calls kj31 t513 t514 t515 t516 t566 t567 t568 t569 t570 _ A238.out).mono ?_); rintro e w293 ⟨rfl, hb⟩; refine ⟨_, rfl, ?_⟩; replace BK475 := fb_ BK475 NB475_565 hb; replace BK476 := fb_ BK476 NB476_565 hb; replace BK482 := fb_ BK482 NB482_565 hb; replace BK488 := fb_ BK488 NB488_565 hb; replace BK495 := fb_ BK495 NB495_565 hb; replace BK501 := fb_ BK501 NB501_565 hb; replace BK507 := fb_ BK507 NB507_565 hb; replace BK512 := fb_ BK512 NB512_565 hb; replace BK518 := fb_ BK518 NB518_565 hb; replace BK524 := fb_ BK524 NB524_565 hb; replace BK530 := fb_ BK530 NB530_565 hb; replace BK536 := fb_ BK536 NB536_565 hb; replace BK542 := fb_ BK542 NB542_565 hb; replace BK551 := fb_ BK551 NB551_565 hb; replace BK552 := fb_ BK552 NB552_565 hb; replace BK565 := Aside0.mk (blk_below (g := gb565) (o := .cells #[.int .i64 t560, .int .i64 t561, .int .i64 t562, .int .i64 t563] 26 (0, 0)) (bp_ BK565).out hb); replace HB := bt_ HB hb; (try clear hb)) | ((with_reducible refine gc_ 11 ?_); refine ge_ 207 Try.func11 #[.agg #[.int .i64 t508, .int .i64 t509, .int .i64 t510, .int .i64 t511]] ?_; (with_reducible refine (impl_ReduceMatrix.calls kj31 t508 t509 t510 t511 t572 t573 t574 t575 t576 _ A239.out).mono ?_); rintro e w313 ⟨rfl, hb⟩; refine ⟨_, rfl, ?_⟩; replace BK475 := fb_ BK475 NB475_571 hb; replace BK476 := fb_ BK476 NB476_571 hb; replace BK482 := fb_ BK482 NB482_571 hb; replace BK488 := fb_ BK488 NB488_571 hb; replace BK495 := fb_ BK495 NB495_571 hb; replace BK501 := fb_ BK501 NB501_571 hb; replace BK507 := fb_ BK507 NB507_571 hb; replace BK512 := fb_ BK512 NB512_571 hb; replace BK518 := fb_ BK518 NB518_571 hb; replace BK524 := fb_ BK524 NB524_571 hb; replace BK530 := fb_ BK530 NB530_571 hb; replace BK536 := fb_ BK536 NB536_571 hb; replace BK542 := fb_ BK542 NB542_571 hb; replace BK551 := fb_ BK551 NB551_571 hb; replace BK552 := fb_ BK552 NB552_571 hb; replace BK565 := fb_ BK565 NB565_571 hb; replace BK571 := Aside0.mk (blk_below (g := gb571) (o := .cells #[.int .i64 t566, .int .i64 t567, .int .i64 t568, .int .i64 t569] 26 (0, 0)) (bp_ BK571).out hb); replace HB := bt_ HB hb; (try clear hb))) | ((with_reducible refine gn_ ?_); first | ((with_reducible refine gd_ 33 ?_); refine by_ 33 #[.int .i64 0, .int .i64 0, .int .i64 0, .int .i64 0] 26 HB ?_; intro gb565 hg w275 BK565 hb GW565 HB_; have NB475_565 := bm_ BK475 hg; have NB565_475 := bn_ BK475 hg; have NB476_565 := bm_ BK476 hg; have NB565_476 := bn_ BK476 hg; have NB482_565 := bm_ BK482 hg; have NB565_482 := bn_ BK482 hg; have NB488_565 := bm_ BK488 hg; have NB565_488 := bn_ BK488 hg; have NB495_565 := bm_ BK495 hg; have NB565_495 := bn_ BK495 hg; have NB501_565 := bm_ BK501 hg; have NB565_501 := bn_ BK501 hg; have NB507_565 := bm_ BK507 hg; have NB565_507 := bn_ BK507 hg; have NB512_565 := bm_ BK512 hg; have NB565_512 := bn_ BK512 hg; have NB518_565 := bm_ BK518 hg; have NB565_518 := bn_ BK518 hg; have NB524_565 := bm_ BK524 hg; have NB565_524 := bn_ BK524 hg; have NB530_565 := bm_ BK530 hg; have NB565_530 := bn_ BK530 hg; have NB536_565 := bm_ BK536 hg; have NB565_536 := bn_ BK536 hg; have NB542_565 := bm_ BK542 hg; have NB565_542 := bn_ BK542 hg; have NB551_565 := bm_ BK551 hg; have NB565_551 := bn_ BK551 hg; have NB552_565 := bm_ BK552 hg; have NB565_552 := bn_ BK552 hg; replace BK475 := bb_ BK475 hb; replace BK476 := bb_ BK476 hb; replace BK482 := bb_ BK482 hb; replace BK488 := bb_ BK488 hb; replace BK495 := bb_ BK495 hb; replace BK501 := bb_ BK501 hb; replace BK507 := bb_ BK507 hb; replace BK512 := bb_ BK512 hb; replace BK518 := bb_ BK518 hb; replace BK524 := bb_ BK524 hb; replace BK530 := bb_ BK530 hb; replace BK536 := bb_ BK536 hb; replace BK542 := bb_ BK542 hb; replace BK551 := bb_ BK551 hb; replace BK552 := bb_ BK552 hb; replace HB := HB_; clear hb hg; have hnb284 := NB565_518.out; have hnc284 := NB518_565.out; obtain ⟨hcz291_0, hcz291_1, hcz291_2, hcz291_3, hfz291_0, hfz291_1, hfz291_2, hfz291_3⟩ := ch4_ BK565; obtain ⟨hcz292_0, hcz292_1, hcz292_2, hcz292_3, hfz292_0, hfz292_1, hfz292_2, hfz292_3⟩ := ch4_ BK518) | ((with_reducible refine gd_ 35 ?_); refine by_ 35 #[.int .i64 0, .int .i64 0, .int .i64 0, .int .i64 0] 26 HB ?_; intro gb571 hg w294 BK571 hb GW571 HB_; have NB475_571 := bm_ BK475 hg; have NB571_475 := bn_ BK475 hg; have NB476_571 := bm_ BK476 hg; have NB571_476 := bn_ BK476 hg; have NB482_571 := bm_ BK482 hg; have NB571_482 := bn_ BK482 hg; have NB488_571 := bm_ BK488 hg; have NB571_488 := bn_ BK488 hg; have NB495_571 := bm_ BK495 hg; have NB571_495 := bn_ BK495 hg; have NB501_571 := bm_ BK501 hg; have NB571_501 := bn_ BK501 hg; have NB507_571 := bm_ BK507 hg; have NB571_507 := bn_ BK507 hg; have NB512_571 := bm_ BK512 hg; have NB571_512 := bn_ BK512 hg; have NB518_571 := bm_ BK518 hg; have NB571_518 := bn_ BK518 hg; have NB524_571 := bm_ BK524 hg; have NB571_524 := bn_ BK524 hg; have NB530_571 := bm_ BK530 hg; have NB571_530 := bn_ BK530 hg; have NB536_571 := bm_ BK536 hg; have NB571_536 := bn_ BK536 hg; have NB542_571 := bm_ BK542 hg; have NB571_542 := bn_ BK542 hg; have NB551_571 := bm_ BK551 hg; have NB571_551 := bn_ BK551 hg; have NB552_571 := bm_ BK552 hg; have NB571_552 := bn_ BK552 hg; have NB565_571 := bm_ BK565 hg; have NB571_565 := bn_ BK565 hg; replace BK475 := bb_ BK475 hb; replace BK476 := bb_ BK476 hb; replace BK482 := bb_ BK482 hb; replace BK488 := bb_ BK488 hb; replace BK495 := bb_ BK495 hb; replace BK501 := bb_ BK501 hb; replace BK507 := bb_ BK507 hb; replace BK512 := bb_ BK512 hb; replace BK518 := bb_ BK518 hb; replace BK524 := bb_ BK524 hb; replace BK530 := bb_ BK530 hb; replace BK536 := bb_ BK536 hb; replace BK542 := bb_ BK542 hb; replace BK551 := bb_ BK551 hb; replace BK552 := bb_ BK552 hb; replace BK565 := bb_ BK565 hb; replace HB := HB_; clear hb hg; have hnb302 := NB571_512.out; have hnc302 := NB512_571.out; (try clear hcz291_0 hcz291_1 hcz291_2 hcz291_3 hfz291_0 hfz291_1 hfz291_2 hfz291_3); (try clear hcz292_0 hcz292_1 hcz292_2 hcz292_3 hfz292_0 hfz292_1 hfz292_2 hfz292_3); obtain ⟨hcz311_0, hcz311_1, hcz311_2, hcz311_3, hfz311_0, hfz311_1, hfz311_2, hfz311_3⟩ := ch4_ BK571; obtain ⟨hcz312_0, hcz312_1, hcz312_2, hcz312_3, hfz312_0, hfz312_1, hfz312_2, hfz312_3⟩ := ch4_ BK512) | ((with_reducible refine gd_ 37 ?_); refine by_ 37 #[.int .i64 0, .int .i64 0, .int .i64 0, .int .i64 0] 26 HB ?_; intro gb577 hg w314 BK577 hb GW577 HB_; have NB475_577 := bm_ BK475 hg; have NB577_475 := bn_ BK475 hg; have NB476_577 := bm_ BK476 hg; have NB577_476 := bn_ BK476 hg; have NB482_577 := bm_ BK482 hg; have NB577_482 := bn_ BK482 hg; have NB488_577 := bm_ BK488 hg; have NB577_488 := bn_ BK488 hg; have NB495_577 := bm_ BK495 hg; have NB577_495 := bn_ BK495 hg; have NB501_577 := bm_ BK501 hg; have NB577_501 := bn_ BK501 hg; have NB507_577 := bm_ BK507 hg; have NB577_507 := bn_ BK507 hg; have NB512_577 := bm_ BK512 hg; have NB577_512 := bn_ BK512 hg; have NB518_577 := bm_ BK518 hg; have NB577_518 := bn_ BK518 hg; have NB524_577 := bm_ BK524 hg; have NB577_524 := bn_ BK524 hg; have NB530_577 := bm_ BK530 hg; have NB577_530 := bn_ BK530 hg; have NB536_577 := bm_ BK536 hg; have NB577_536 := bn_ BK536 hg; have NB542_577 := bm_ BK542 hg; have NB577_542 := bn_ BK542 hg; have NB551_577 := bm_ BK551 hg; have NB577_551 := bn_ BK551 hg; have NB552_577 := bm_ BK552 hg; have NB577_552 := bn_ BK552 hg; have NB565_577 := bm_ BK565 hg; have NB577_565 := bn_ BK565 hg; have NB571_577 := bm_ BK571 hg; have NB577_571 := bn_ BK571 hg; replace BK475 := bb_ BK475 hb; replace BK476 := bb_ BK476 hb; replace BK482 := bb_ BK482 hb; replace BK488 := bb_ BK488 hb; replace BK495 := bb_ BK495 hb; replace BK501 := bb_ BK501 hb; replace BK507 := bb_ BK507 hb; replace BK512 := bb_ BK512 hb; replace BK518 := bb_ BK518 hb; replace BK524 := bb_ BK524 hb; replace BK530 := bb_ BK530 hb; replace BK536 := bb_ BK536 hb; replace BK542 := bb_ BK542 hb; replace BK551 := bb_ BK551 hb; replace BK552 := bb_ BK552 hb; replace BK565 := bb_ BK565 hb; replace BK571 := bb_ BK571 hb; replace HB := HB_; clear hb hg; have hnb330 := NB577_565.out; have hnc330 := NB565_577.out; have hnb331 := NB577_571.out; have hnc331 := NB571_577.out; (try clear hcz311_0 hcz311_1 hcz311_2 hcz311_3 hfz311_0 hfz311_1 hfz311_2 hfz311_3); (try clear hcz312_0 hcz312_1 hcz312_2 hcz312_3 hfz312_0 hfz312_1 hfz312_2 hfz312_3); obtain ⟨hcz332_0, hcz332_1, hcz332_2, hcz332_3, hfz332_0, hfz332_1, hfz332_2, hfz332_3⟩ := ch4_ BK577; obtain ⟨hcz333_0, hcz333_1, hcz333_2, hcz333_3, hfz333_0, hfz333_1, hfz333_2, hfz333_3⟩ := ch4_ BK565; obtain ⟨hcz334_0, hcz334_1, hcz334_2, hcz334_3, hfz334_0, hfz334_1, hfz334_2, hfz334_3⟩ := ch4_ BK571)))
     go_meet
     case rel => exact ⟨_, H', ⟨by have := HJ31.out; first | omega | exact Nat.le_refl _⟩, fl_ BK475 NB475_577, fl_ BK476 NB476_577, fl_ BK482 NB482_577, fl_ BK488 NB488_577, fl_ BK495 NB495_577, fl_ BK501 NB501_577, fl_ BK507 NB507_577, fl_ BK512 NB512_577, fl_ BK518 NB518_577, fl_ BK524 NB524_577, fl_ BK530 NB530_577, fl_ BK536 NB536_577, fl_ BK542 NB542_577, fl_ BK551 NB551_577, fl_ BK552 NB552_577, bw_ HB⟩
    (first | rw [c236b0] | (simp only [i64_w, i32_w]; rw [c236b0]) | skip)
    have H' := Aside0.mk H
    clear H
    go_wp2
    go_meet
    case rel => exact ⟨_, H', ⟨by have := HJ31.out; first | omega | exact Nat.le_refl _⟩, bl_ BK475, bl_ BK476, bl_ BK482, bl_ BK488, bl_ BK495, bl_ BK501, bl_ BK507, bl_ BK512, bl_ BK518, bl_ BK524, bl_ BK530, bl_ BK536, bl_ BK542, bl_ BK551, bl_ BK552, bw_ HB⟩
   case rest => as_aux_lemma =>
    clear HC235
    try clear c7b0
    try clear c7b1
    try clear c8
    try clear c8b0
    try clear c11
    try clear c11b0
    try clear c11b1
    try clear c11b2
    try clear c15b0
    try clear c15b1
    try clear c16
    try clear c16b0
    try clear c20b0
    try clear c20b1
    try clear c21
    try clear c21b0
    try clear c25b0
    try clear c25b1
    try clear c26
    try clear c26b0
    try clear c30b0
    try clear c30b1
    try clear c31
    try clear c31b0
    try clear c31b1
    try clear c31b2
    try clear c197
    try clear c197b0
    try clear c197b1
    try clear c199b0
    try clear c199b1
    try clear c236
    try clear c236b0
    try clear c236b1
    try clear c240b0
    try clear c240b1
    try clear c241
    try clear c241b0
    try clear c242b0
    try clear c242b1
    try clear c243b0
    try clear c243b1
    try clear c244
    try clear c244b0
    try clear hcz102_0 hcz102_1 hcz102_2 hcz102_3
    try clear hcz103_0 hcz103_1 hcz103_2 hcz103_3
    try clear hcz115_0 hcz115_1 hcz115_2 hcz115_3
    try clear hcz116_0 hcz116_1 hcz116_2 hcz116_3
    try clear hcz129_0 hcz129_1 hcz129_2 hcz129_3
    try clear hcz143_0 hcz143_1 hcz143_2 hcz143_3
    try clear hcz144_0 hcz144_1 hcz144_2 hcz144_3
    try clear hcz159_0 hcz159_1 hcz159_2 hcz159_3
    try clear hcz160_0 hcz160_1 hcz160_2 hcz160_3
    try clear hcz178_0 hcz178_1 hcz178_2 hcz178_3
    try clear hcz192_0 hcz192_1 hcz192_2 hcz192_3
    try clear hcz194_0 hcz194_1 hcz194_2 hcz194_3
    try clear hcz195_0 hcz195_1 hcz195_2 hcz195_3
    try clear hcz217_0 hcz217_1 hcz217_2 hcz217_3
    try clear hcz231_0 hcz231_1 hcz231_2 hcz231_3
    try clear hcz233_0 hcz233_1 hcz233_2 hcz233_3
    try clear hcz259_0 hcz259_1 hcz259_2 hcz259_3
    try clear hcz273_0 hcz273_1 hcz273_2 hcz273_3
    try clear hcz291_0 hcz291_1 hcz291_2 hcz291_3
    try clear hcz292_0 hcz292_1 hcz292_2 hcz292_3
    try clear hcz311_0 hcz311_1 hcz311_2 hcz311_3
    try clear hcz312_0 hcz312_1 hcz312_2 hcz312_3
    try clear hcz332_0 hcz332_1 hcz332_2 hcz332_3
    try clear hcz333_0 hcz333_1 hcz333_2 hcz333_3
    try clear hcz334_0 hcz334_1 hcz334_2 hcz334_3
    try clear hcz37_0 hcz37_1 hcz37_2 hcz37_3
    try clear hcz38_0 hcz38_1 hcz38_2 hcz38_3
    try clear hcz43_0 hcz43_1 hcz43_2 hcz43_3
    try clear hcz44_0 hcz44_1 hcz44_2 hcz44_3
    try clear hcz45_0 hcz45_1 hcz45_2 hcz45_3
    try clear hcz51_0 hcz51_1 hcz51_2 hcz51_3
    try clear hcz62_0 hcz62_1 hcz62_2 hcz62_3
    try clear hcz70_0 hcz70_1 hcz70_2 hcz70_3
    try clear hcz71_0 hcz71_1 hcz71_2 hcz71_3
    try clear hcz80_0 hcz80_1 hcz80_2 hcz80_3
    try clear hcz81_0 hcz81_1 hcz81_2 hcz81_3
    try clear hcz91_0 hcz91_1 hcz91_2 hcz91_3
    try clear hfz102_0 hfz102_1 hfz102_2 hfz102_3
    try clear hfz103_0 hfz103_1 hfz103_2 hfz103_3
    try clear hfz115_0 hfz115_1 hfz115_2 hfz115_3
    try clear hfz116_0 hfz116_1 hfz116_2 hfz116_3
    try clear hfz129_0 hfz129_1 hfz129_2 hfz129_3
    try clear hfz143_0 hfz143_1 hfz143_2 hfz143_3
    try clear hfz144_0 hfz144_1 hfz144_2 hfz144_3
    try clear hfz159_0 hfz159_1 hfz159_2 hfz159_3
    try clear hfz160_0 hfz160_1 hfz160_2 hfz160_3
    try clear hfz178_0 hfz178_1 hfz178_2 hfz178_3
    try clear hfz192_0 hfz192_1 hfz192_2 hfz192_3
    try clear hfz194_0 hfz194_1 hfz194_2 hfz194_3
    try clear hfz195_0 hfz195_1 hfz195_2 hfz195_3
    try clear hfz217_0 hfz217_1 hfz217_2 hfz217_3
    try clear hfz231_0 hfz231_1 hfz231_2 hfz231_3
    try clear hfz233_0 hfz233_1 hfz233_2 hfz233_3
    try clear hfz259_0 hfz259_1 hfz259_2 hfz259_3
    try clear hfz273_0 hfz273_1 hfz273_2 hfz273_3
    try clear hfz291_0 hfz291_1 hfz291_2 hfz291_3
    try clear hfz292_0 hfz292_1 hfz292_2 hfz292_3
    try clear hfz311_0 hfz311_1 hfz311_2 hfz311_3
    try clear hfz312_0 hfz312_1 hfz312_2 hfz312_3
    try clear hfz332_0 hfz332_1 hfz332_2 hfz332_3
    try clear hfz333_0 hfz333_1 hfz333_2 hfz333_3
    try clear hfz334_0 hfz334_1 hfz334_2 hfz334_3
    try clear hfz37_0 hfz37_1 hfz37_2 hfz37_3
    try clear hfz38_0 hfz38_1 hfz38_2 hfz38_3
    try clear hfz43_0 hfz43_1 hfz43_2 hfz43_3
    try clear hfz44_0 hfz44_1 hfz44_2 hfz44_3
    try clear hfz45_0 hfz45_1 hfz45_2 hfz45_3
    try clear hfz51_0 hfz51_1 hfz51_2 hfz51_3
    try clear hfz62_0 hfz62_1 hfz62_2 hfz62_3
    try clear hfz70_0 hfz70_1 hfz70_2 hfz70_3
    try clear hfz71_0 hfz71_1 hfz71_2 hfz71_3
    try clear hfz80_0 hfz80_1 hfz80_2 hfz80_3
    try clear hfz81_0 hfz81_1 hfz81_2 hfz81_3
    try clear hfz91_0 hfz91_1 hfz91_2 hfz91_3
    obtain ⟨kq, HA, HJ234, BK475, BK476, BK482, BK488, BK495, BK501, BK507, BK512, BK518, BK524, BK530, BK536, BK542, BK551, BK552, HB⟩ := hcut
    cases kq with
    | zero => exact absurd HA.out (by simp [laws_FnMatrices.j1])
    | succ kj234 =>
     have H := HA.out
     clear HA
     simp only [laws_FnMatrices.j1] at H
     have HC335 := Aside0.mk H
     clear H
     go_upto_region 38 with (fail)
     go_cut [237] (fun v237 wc => ∃ (kq : Nat) (x237_334 : Bool), v237 = .bool x237_334 ∧ Aside0 (laws_FnMatrices.j2 kq t481 t529 x237_334 t467 t468 t469 t470 t471 t472 t473 t474 t477 t478 t479 t480 t525 t526 t527 t528 t531 t532 t533 t534 = some r) ∧ Aside0 (kq ≤ kj234) ∧ Aside0 (wc.heap[gb475]? = some (.cells #[.int .i64 t467, .int .i64 t468, .int .i64 t469, .int .i64 t470] 26 (0, 0))) ∧ Aside0 (wc.heap[gb476]? = some (.cells #[.int .i64 t471, .int .i64 t472, .int .i64 t473, .int .i64 t474] 26 (0, 0))) ∧ Aside0 (wc.heap[gb482]? = some (.cells #[.int .i64 t477, .int .i64 t478, .int .i64 t479, .int .i64 t480] 26 (0, 0))) ∧ Aside0 (wc.heap[gb488]? = some (.cells #[.int .i64 t483, .int .i64 t484, .int .i64 t485, .int .i64 t486] 26 (0, 0))) ∧ Aside0 (wc.heap[gb495]? = some (.cells #[.int .i64 t491, .int .i64 t492, .int .i64 t493, .int .i64 t494] 26 (0, 0))) ∧ Aside0 (wc.heap[gb501]? = some (.cells #[.int .i64 t496, .int .i64 t497, .int .i64 t498, .int .i64 t499] 26 (0, 0))) ∧ Aside0 (wc.heap[gb507]? = some (.cells #[.int .i64 t502, .int .i64 t503, .int .i64 t504, .int .i64 t505] 26 (0, 0))) ∧ Aside0 (wc.heap[gb512]? = some (.cells #[.int .i64 t508, .int .i64 t509, .int .i64 t510, .int .i64 t511] 26 (0, 0))) ∧ Aside0 (wc.heap[gb518]? = some (.cells #[.int .i64 t513, .int .i64 t514, .int .i64 t515, .int .i64 t516] 26 (0, 0))) ∧ Aside0 (wc.heap[gb524]? = some (.cells #[.int .i64 t519, .int .i64 t520, .int .i64 t521, .int .i64 t522] 26 (0, 0))) ∧ Aside0 (wc.heap[gb530]? = some (.cells #[.int .i64 t525, .int .i64 t526, .int .i64 t527, .int .i64 t528] 26 (0, 0))) ∧ Aside0 (wc.heap[gb536]? = some (.cells #[.int .i64 t531, .int .i64 t532, .int .i64 t533, .int .i64 t534] 26 (0, 0))) ∧ Aside0 (wc.heap[gb542]? = some (.cells #[.int .i64 t537, .int .i64 t538, .int .i64 t539, .int .i64 t540] 26 (0, 0))) ∧ Aside0 (wc.heap[gb551]? = some (.cells #[.int .i64 t543, .int .i64 t544, .int .i64 t545, .int .i64 t546] 26 (0, 0))) ∧ Aside0 (wc.heap[gb552]? = some (.cells #[.int .i64 t547, .int .i64 t548, .int .i64 t549, .int .i64 t550] 26 (0, 0))) ∧ Aside0 (Below w.heap.size w wc))
     case first => as_aux_lemma =>
      have H := HC335.out
      clear HC335
      replace H := ie_ H
      rcases H with ⟨c336b0, c336b1, H⟩ | ⟨c336, c336b0, c336b1, H⟩
      ·(first | rw [c336b0] | (simp only [i64_w, i32_w]; rw [c336b0]) | skip)
       have H' := Aside0.mk H
       clear H
       go_wp2
       go_meet
       case rel => exact ⟨_, (decide (t529 < 20)), en_, H', ⟨by have := HJ31.out; have := HJ234.out; first | omega | exact Nat.le_refl _⟩, bl_ BK475, bl_ BK476, bl_ BK482, bl_ BK488, bl_ BK495, bl_ BK501, bl_ BK507, bl_ BK512, bl_ BK518, bl_ BK524, bl_ BK530, bl_ BK536, bl_ BK542, bl_ BK551, bl_ BK552, bw_ HB⟩
      (first | rw [c336b0] | (simp only [i64_w, i32_w]; rw [c336b0]) | skip)
      have H' := Aside0.mk H
      clear H
      go_wp2
      go_meet
      case rel => exact ⟨_, (false), en_, H', ⟨by have := HJ31.out; have := HJ234.out; first | omega | exact Nat.le_refl _⟩, bl_ BK475, bl_ BK476, bl_ BK482, bl_ BK488, bl_ BK495, bl_ BK501, bl_ BK507, bl_ BK512, bl_ BK518, bl_ BK524, bl_ BK530, bl_ BK536, bl_ BK542, bl_ BK551, bl_ BK552, bw_ HB⟩
     case rest => as_aux_lemma =>
      clear HC335
      try clear c8
      try clear c11
      try clear c15b0
      try clear c15b1
      try clear c16
      try clear c16b0
      try clear c20b0
      try clear c20b1
      try clear c21
      try clear c21b0
      try clear c25b0
      try clear c25b1
      try clear c26
      try clear c26b0
      try clear c30b0
      try clear c30b1
      try clear c31
      try clear c31b0
      try clear c31b1
      try clear c31b2
      try clear c197
      try clear c197b0
      try clear c197b1
      try clear c199b0
      try clear c199b1
      try clear c236
      try clear c236b0
      try clear c236b1
      try clear c240b0
      try clear c240b1
      try clear c241
      try clear c241b0
      try clear c242b0
      try clear c242b1
      try clear c243b0
      try clear c243b1
      try clear c244
      try clear c244b0
      try clear c336
      try clear c336b0
      try clear c336b1
      try clear hcz102_0 hcz102_1 hcz102_2 hcz102_3
      try clear hcz103_0 hcz103_1 hcz103_2 hcz103_3
      try clear hcz115_0 hcz115_1 hcz115_2 hcz115_3
      try clear hcz116_0 hcz116_1 hcz116_2 hcz116_3
      try clear hcz129_0 hcz129_1 hcz129_2 hcz129_3
      try clear hcz143_0 hcz143_1 hcz143_2 hcz143_3
      try clear hcz144_0 hcz144_1 hcz144_2 hcz144_3
      try clear hcz159_0 hcz159_1 hcz159_2 hcz159_3
      try clear hcz160_0 hcz160_1 hcz160_2 hcz160_3
      try clear hcz178_0 hcz178_1 hcz178_2 hcz178_3
      try clear hcz192_0 hcz192_1 hcz192_2 hcz192_3
      try clear hcz194_0 hcz194_1 hcz194_2 hcz194_3
      try clear hcz195_0 hcz195_1 hcz195_2 hcz195_3
      try clear hcz217_0 hcz217_1 hcz217_2 hcz217_3
      try clear hcz231_0 hcz231_1 hcz231_2 hcz231_3
      try clear hcz233_0 hcz233_1 hcz233_2 hcz233_3
      try clear hcz259_0 hcz259_1 hcz259_2 hcz259_3
      try clear hcz273_0 hcz273_1 hcz273_2 hcz273_3
      try clear hcz291_0 hcz291_1 hcz291_2 hcz291_3
      try clear hcz292_0 hcz292_1 hcz292_2 hcz292_3
      try clear hcz311_0 hcz311_1 hcz311_2 hcz311_3
      try clear hcz312_0 hcz312_1 hcz312_2 hcz312_3
      try clear hcz332_0 hcz332_1 hcz332_2 hcz332_3
      try clear hcz333_0 hcz333_1 hcz333_2 hcz333_3
      try clear hcz334_0 hcz334_1 hcz334_2 hcz334_3
      try clear hcz37_0 hcz37_1 hcz37_2 hcz37_3
      try clear hcz38_0 hcz38_1 hcz38_2 hcz38_3
      try clear hcz43_0 hcz43_1 hcz43_2 hcz43_3
      try clear hcz44_0 hcz44_1 hcz44_2 hcz44_3
      try clear hcz45_0 hcz45_1 hcz45_2 hcz45_3
      try clear hcz51_0 hcz51_1 hcz51_2 hcz51_3
      try clear hcz62_0 hcz62_1 hcz62_2 hcz62_3
      try clear hcz70_0 hcz70_1 hcz70_2 hcz70_3
      try clear hcz71_0 hcz71_1 hcz71_2 hcz71_3
      try clear hcz80_0 hcz80_1 hcz80_2 hcz80_3
      try clear hcz81_0 hcz81_1 hcz81_2 hcz81_3
      try clear hcz91_0 hcz91_1 hcz91_2 hcz91_3
      try clear hfz102_0 hfz102_1 hfz102_2 hfz102_3
      try clear hfz103_0 hfz103_1 hfz103_2 hfz103_3
      try clear hfz115_0 hfz115_1 hfz115_2 hfz115_3
      try clear hfz116_0 hfz116_1 hfz116_2 hfz116_3
      try clear hfz129_0 hfz129_1 hfz129_2 hfz129_3
      try clear hfz143_0 hfz143_1 hfz143_2 hfz143_3
      try clear hfz144_0 hfz144_1 hfz144_2 hfz144_3
      try clear hfz159_0 hfz159_1 hfz159_2 hfz159_3
      try clear hfz160_0 hfz160_1 hfz160_2 hfz160_3
      try clear hfz178_0 hfz178_1 hfz178_2 hfz178_3
      try clear hfz192_0 hfz192_1 hfz192_2 hfz192_3
      try clear hfz194_0 hfz194_1 hfz194_2 hfz194_3
      try clear hfz195_0 hfz195_1 hfz195_2 hfz195_3
      try clear hfz217_0 hfz217_1 hfz217_2 hfz217_3
      try clear hfz231_0 hfz231_1 hfz231_2 hfz231_3
      try clear hfz233_0 hfz233_1 hfz233_2 hfz233_3
      try clear hfz259_0 hfz259_1 hfz259_2 hfz259_3
      try clear hfz273_0 hfz273_1 hfz273_2 hfz273_3
      try clear hfz291_0 hfz291_1 hfz291_2 hfz291_3
      try clear hfz292_0 hfz292_1 hfz292_2 hfz292_3
      try clear hfz311_0 hfz311_1 hfz311_2 hfz311_3
      try clear hfz312_0 hfz312_1 hfz312_2 hfz312_3
      try clear hfz332_0 hfz332_1 hfz332_2 hfz332_3
      try clear hfz333_0 hfz333_1 hfz333_2 hfz333_3
      try clear hfz334_0 hfz334_1 hfz334_2 hfz334_3
      try clear hfz37_0 hfz37_1 hfz37_2 hfz37_3
      try clear hfz38_0 hfz38_1 hfz38_2 hfz38_3
      try clear hfz43_0 hfz43_1 hfz43_2 hfz43_3
      try clear hfz44_0 hfz44_1 hfz44_2 hfz44_3
      try clear hfz45_0 hfz45_1 hfz45_2 hfz45_3
      try clear hfz51_0 hfz51_1 hfz51_2 hfz51_3
      try clear hfz62_0 hfz62_1 hfz62_2 hfz62_3
      try clear hfz70_0 hfz70_1 hfz70_2 hfz70_3
      try clear hfz71_0 hfz71_1 hfz71_2 hfz71_3
      try clear hfz80_0 hfz80_1 hfz80_2 hfz80_3
      try clear hfz81_0 hfz81_1 hfz81_2 hfz81_3
      try clear hfz91_0 hfz91_1 hfz91_2 hfz91_3
      obtain ⟨kq, x237_334, rfl, HA, HJ334, BK475, BK476, BK482, BK488, BK495, BK501, BK507, BK512, BK518, BK524, BK530, BK536, BK542, BK551, BK552, HB⟩ := hcut
      cases kq with
      | zero => exact absurd HA.out (by simp [laws_FnMatrices.j2])
      | succ kj334 =>
       have H := HA.out
       clear HA
       simp only [laws_FnMatrices.j2] at H
       have HC337 := Aside0.mk H
       clear H
       go_upto_if 237 with (fail)
       go_cut [] (fun wc => ∃ (kq : Nat), Aside0 (laws_FnMatrices.j3 kq t481 t467 t468 t469 t470 t471 t472 t473 t474 t477 t478 t479 t480 = some r) ∧ Aside0 (kq ≤ kj334) ∧ Aside0 (wc.heap[gb475]? = some (.cells #[.int .i64 t467, .int .i64 t468, .int .i64 t469, .int .i64 t470] 26 (0, 0))) ∧ Aside0 (wc.heap[gb476]? = some (.cells #[.int .i64 t471, .int .i64 t472, .int .i64 t473, .int .i64 t474] 26 (0, 0))) ∧ Aside0 (wc.heap[gb482]? = some (.cells #[.int .i64 t477, .int .i64 t478, .int .i64 t479, .int .i64 t480] 26 (0, 0))) ∧ Aside0 (wc.heap[gb488]? = some (.cells #[.int .i64 t483, .int .i64 t484, .int .i64 t485, .int .i64 t486] 26 (0, 0))) ∧ Aside0 (wc.heap[gb495]? = some (.cells #[.int .i64 t491, .int .i64 t492, .int .i64 t493, .int .i64 t494] 26 (0, 0))) ∧ Aside0 (wc.heap[gb501]? = some (.cells #[.int .i64 t496, .int .i64 t497, .int .i64 t498, .int .i64 t499] 26 (0, 0))) ∧ Aside0 (wc.heap[gb507]? = some (.cells #[.int .i64 t502, .int .i64 t503, .int .i64 t504, .int .i64 t505] 26 (0, 0))) ∧ Aside0 (wc.heap[gb512]? = some (.cells #[.int .i64 t508, .int .i64 t509, .int .i64 t510, .int .i64 t511] 26 (0, 0))) ∧ Aside0 (wc.heap[gb518]? = some (.cells #[.int .i64 t513, .int .i64 t514, .int .i64 t515, .int .i64 t516] 26 (0, 0))) ∧ Aside0 (wc.heap[gb524]? = some (.cells #[.int .i64 t519, .int .i64 t520, .int .i64 t521, .int .i64 t522] 26 (0, 0))) ∧ Aside0 (wc.heap[gb530]? = some (.cells #[.int .i64 t525, .int .i64 t526, .int .i64 t527, .int .i64 t528] 26 (0, 0))) ∧ Aside0 (wc.heap[gb536]? = some (.cells #[.int .i64 t531, .int .i64 t532, .int .i64 t533, .int .i64 t534] 26 (0, 0))) ∧ Aside0 (wc.heap[gb542]? = some (.cells #[.int .i64 t537, .int .i64 t538, .int .i64 t539, .int .i64 t540] 26 (0, 0))) ∧ Aside0 (wc.heap[gb551]? = some (.cells #[.int .i64 t543, .int .i64 t544, .int .i64 t545, .int .i64 t546] 26 (0, 0))) ∧ Aside0 (wc.heap[gb552]? = some (.cells #[.int .i64 t547, .int .i64 t548, .int .i64 t549, .int .i64 t550] 26 (0, 0))) ∧ Aside0 (Below w.heap.size w wc))
       case first => as_aux_lemma =>
        have H := HC337.out
        clear HC337
        replace H := ib_ H
        rcases H with ⟨rfl, H⟩ | ⟨rfl, H⟩
        ·replace H := oc_ H
         obtain ⟨⟨t578, t579, t580, t581, t582⟩, A339, H⟩ := H
         replace H := oc_ H
         obtain ⟨⟨t584, t585, t586, t587, t588⟩, A340, H⟩ := H
         replace H := ie_ H
         rcases H with ⟨c341b0, c341b1, H⟩ | ⟨c341, c341b0, c341b1, H⟩
         ·(first | rw [c341b0] | (simp only [i64_w, i32_w]; rw [c341b0]) | skip)
          replace H := ie_ H
          rcases H with ⟨c342b0, c342b1, H⟩ | ⟨c342, c342b0, c342b1, H⟩
          ·by_cases c343 : ((!(t578 == t584) || (!(t579 == t585))) || ((!(t580 == t586) || (!(t581 == t587))))) = true
           ·rw [if_pos c343] at H
            exact absurd H (by simp)
           rw [if_neg c343] at H
           have c343b0 : ((!(t578 == t584) || (!(t579 == t585))) || ((!(t580 == t586) || (!(t581 == t587))))) = false := by simpa using c343
           clear c343
           have H' := Aside0.mk H
           clear H
           obtain ⟨hcz358_0, hcz358_1, hcz358_2, hcz358_3, hfz358_0, hfz358_1, hfz358_2, hfz358_3⟩ := ch4_ BK530
           go_wp2_with (first | ((with_reducible refine gc_ 17 ?_); refine ge_ 242 Try.func17 #[.agg #[.int .i64 t525, .int .i64 t526, .int .i64 t527, .int .i64 t528], .int .i64 (wrap64 (t529 + 1))] ?_; (with_reducible refine (impl_PowerMatrix.calls kj334 t525 t526 t527 t528 (wrap64 (t529 + 1)) t578 t579 t580 t581 t582 _ A339.out).mono ?_); rintro e w359 ⟨rfl, hb⟩; refine ⟨_, rfl, ?_⟩; replace BK475 := bb_ BK475 hb; replace BK476 := bb_ BK476 hb; replace BK482 := bb_ BK482 hb; replace BK488 := bb_ BK488 hb; replace BK495 := bb_ BK495 hb; replace BK501 := bb_ BK501 hb; replace BK507 := bb_ BK507 hb; replace BK512 := bb_ BK512 hb; replace BK518 := bb_ BK518 hb; replace BK524 := bb_ BK524 hb; replace BK530 := bb_ BK530 hb; replace BK536 := bb_ BK536 hb; replace BK542 := bb_ BK542 hb; replace BK551 := bb_ BK551 hb; replace BK552 := bb_ BK552 hb; replace HB := bt_ HB hb; (try clear hb)) | ((with_reducible refine gd_ 39 ?_); refine by_ 39 #[.int .i64 0, .int .i64 0, .int .i64 0, .int .i64 0] 26 HB ?_; intro gb583 hg w360 BK583 hb GW583 HB_; have NB475_583 := bm_ BK475 hg; have NB583_475 := bn_ BK475 hg; have NB476_583 := bm_ BK476 hg; have NB583_476 := bn_ BK476 hg; have NB482_583 := bm_ BK482 hg; have NB583_482 := bn_ BK482 hg; have NB488_583 := bm_ BK488 hg; have NB583_488 := bn_ BK488 hg; have NB495_583 := bm_ BK495 hg; have NB583_495 := bn_ BK495 hg; have NB501_583 := bm_ BK501 hg; have NB583_501 := bn_ BK501 hg; have NB507_583 := bm_ BK507 hg; have NB583_507 := bn_ BK507 hg; have NB512_583 := bm_ BK512 hg; have NB583_512 := bn_ BK512 hg; have NB518_583 := bm_ BK518 hg; have NB583_518 := bn_ BK518 hg; have NB524_583 := bm_ BK524 hg; have NB583_524 := bn_ BK524 hg; have NB530_583 := bm_ BK530 hg; have NB583_530 := bn_ BK530 hg; have NB536_583 := bm_ BK536 hg; have NB583_536 := bn_ BK536 hg; have NB542_583 := bm_ BK542 hg; have NB583_542 := bn_ BK542 hg; have NB551_583 := bm_ BK551 hg; have NB583_551 := bn_ BK551 hg; have NB552_583 := bm_ BK552 hg; have NB583_552 := bn_ BK552 hg; replace BK475 := bb_ BK475 hb; replace BK476 := bb_ BK476 hb; replace BK482 := bb_ BK482 hb; replace BK488 := bb_ BK488 hb; replace BK495 := bb_ BK495 hb; replace BK501 := bb_ BK501 hb; replace BK507 := bb_ BK507 hb; replace BK512 := bb_ BK512 hb; replace BK518 := bb_ BK518 hb; replace BK524 := bb_ BK524 hb; replace BK530 := bb_ BK530 hb; replace BK536 := bb_ BK536 hb; replace BK542 := bb_ BK542 hb; replace BK551 := bb_ BK551 hb; replace BK552 := bb_ BK552 hb; replace HB := HB_; clear hb hg; have hnb371 := NB583_530.out; have hnc371 := NB530_583.out; have hnb372 := NB583_536.out; have hnc372 := NB536_583.out; obtain ⟨hcz376_0, hcz376_1, hcz376_2, hcz376_3, hfz376_0, hfz376_1, hfz376_2, hfz376_3⟩ := ch4_ BK583; obtain ⟨hcz390_0, hcz390_1, hcz390_2, hcz390_3, hfz390_0, hfz390_1, hfz390_2, hfz390_3⟩ := ch4_ BK536; obtain ⟨hcz391_0, hcz391_1, hcz391_2, hcz391_3, hfz391_0, hfz391_1, hfz391_2, hfz391_3⟩ := ch4_ BK530) | ((with_reducible refine gc_ 6 ?_); refine ge_ 248 Try.func6 #[.agg #[.int .i64 t531, .int .i64 t532, .int .i64 t533, .int .i64 t534], .agg #[.int .i64 t525, .int .i64 t526, .int .i64 t527, .int .i64 t528]] ?_; (with_reducible refine (impl_MultiplyMatrices.calls kj334 t531 t532 t533 t534 t525 t526 t527 t528 t584 t585 t586 t587 t588 _ A340.out).mono ?_); rintro e w392 ⟨rfl, hb⟩; refine ⟨_, rfl, ?_⟩; replace BK475 := fb_ BK475 NB475_583 hb; replace BK476 := fb_ BK476 NB476_583 hb; replace BK482 := fb_ BK482 NB482_583 hb; replace BK488 := fb_ BK488 NB488_583 hb; replace BK495 := fb_ BK495 NB495_583 hb; replace BK501 := fb_ BK501 NB501_583 hb; replace BK507 := fb_ BK507 NB507_583 hb; replace BK512 := fb_ BK512 NB512_583 hb; replace BK518 := fb_ BK518 NB518_583 hb; replace BK524 := fb_ BK524 NB524_583 hb; replace BK530 := fb_ BK530 NB530_583 hb; replace BK536 := fb_ BK536 NB536_583 hb; replace BK542 := fb_ BK542 NB542_583 hb; replace BK551 := fb_ BK551 NB551_583 hb; replace BK552 := fb_ BK552 NB552_583 hb; replace BK583 := Aside0.mk (blk_below (g := gb583) (o := .cells #[.int .i64 t578, .int .i64 t579, .int .i64 t580, .int .i64 t581] 26 (0, 0)) (bp_ BK583).out hb); replace HB := bt_ HB hb; (try clear hb)) | ((with_reducible refine gd_ 41 ?_); refine by_ 41 #[.int .i64 0, .int .i64 0, .int .i64 0, .int .i64 0] 26 HB ?_; intro gb589 hg w393 BK589 hb GW589 HB_; have NB475_589 := bm_ BK475 hg; have NB589_475 := bn_ BK475 hg; have NB476_589 := bm_ BK476 hg; have NB589_476 := bn_ BK476 hg; have NB482_589 := bm_ BK482 hg; have NB589_482 := bn_ BK482 hg; have NB488_589 := bm_ BK488 hg; have NB589_488 := bn_ BK488 hg; have NB495_589 := bm_ BK495 hg; have NB589_495 := bn_ BK495 hg; have NB501_589 := bm_ BK501 hg; have NB589_501 := bn_ BK501 hg; have NB507_589 := bm_ BK507 hg; have NB589_507 := bn_ BK507 hg; have NB512_589 := bm_ BK512 hg; have NB589_512 := bn_ BK512 hg; have NB518_589 := bm_ BK518 hg; have NB589_518 := bn_ BK518 hg; have NB524_589 := bm_ BK524 hg; have NB589_524 := bn_ BK524 hg; have NB530_589 := bm_ BK530 hg; have NB589_530 := bn_ BK530 hg; have NB536_589 := bm_ BK536 hg; have NB589_536 := bn_ BK536 hg; have NB542_589 := bm_ BK542 hg; have NB589_542 := bn_ BK542 hg; have NB551_589 := bm_ BK551 hg; have NB589_551 := bn_ BK551 hg; have NB552_589 := bm_ BK552 hg; have NB589_552 := bn_ BK552 hg; have NB583_589 := bm_ BK583 hg; have NB589_583 := bn_ BK583 hg; replace BK475 := bb_ BK475 hb; replace BK476 := bb_ BK476 hb; replace BK482 := bb_ BK482 hb; replace BK488 := bb_ BK488 hb; replace BK495 := bb_ BK495 hb; replace BK501 := bb_ BK501 hb; replace BK507 := bb_ BK507 hb; replace BK512 := bb_ BK512 hb; replace BK518 := bb_ BK518 hb; replace BK524 := bb_ BK524 hb; replace BK530 := bb_ BK530 hb; replace BK536 := bb_ BK536 hb; replace BK542 := bb_ BK542 hb; replace BK551 := bb_ BK551 hb; replace BK552 := bb_ BK552 hb; replace BK583 := bb_ BK583 hb; replace HB := HB_; clear hb hg; have hnb409 := NB589_583.out; have hnc409 := NB583_589.out; (try clear hcz376_0 hcz376_1 hcz376_2 hcz376_3 hfz376_0 hfz376_1 hfz376_2 hfz376_3); (try clear hcz390_0 hcz390_1 hcz390_2 hcz390_3 hfz390_0 hfz390_1 hfz390_2 hfz390_3); (try clear hcz391_0 hcz391_1 hcz391_2 hcz391_3 hfz391_0 hfz391_1 hfz391_2 hfz391_3); obtain ⟨hcz410_0, hcz410_1, hcz410_2, hcz410_3, hfz410_0, hfz410_1, hfz410_2, hfz410_3⟩ := ch4_ BK589; obtain ⟨hcz411_0, hcz411_1, hcz411_2, hcz411_3, hfz411_0, hfz411_1, hfz411_2, hfz411_3⟩ := ch4_ BK583))
           go_meet
           case rel => exact ⟨_, H', ⟨by have := HJ31.out; have := HJ234.out; have := HJ334.out; first | omega | exact Nat.le_refl _⟩, fl_ BK475 NB475_589, fl_ BK476 NB476_589, fl_ BK482 NB482_589, fl_ BK488 NB488_589, fl_ BK495 NB495_589, fl_ BK501 NB501_589, fl_ BK507 NB507_589, fl_ BK512 NB512_589, fl_ BK518 NB518_589, fl_ BK524 NB524_589, fl_ BK530 NB530_589, fl_ BK536 NB536_589, fl_ BK542 NB542_589, fl_ BK551 NB551_589, fl_ BK552 NB552_589, bw_ HB⟩
          have H' := Aside0.mk H
          clear H
          obtain ⟨hcz426_0, hcz426_1, hcz426_2, hcz426_3, hfz426_0, hfz426_1, hfz426_2, hfz426_3⟩ := ch4_ BK530
          go_wp2_with (first | ((with_reducible refine gc_ 17 ?_); refine ge_ 242 Try.func17 #[.agg #[.int .i64 t525, .int .i64 t526, .int .i64 t527, .int .i64 t528], .int .i64 (wrap64 (t529 + 1))] ?_; (with_reducible refine (impl_PowerMatrix.calls kj334 t525 t526 t527 t528 (wrap64 (t529 + 1)) t578 t579 t580 t581 t582 _ A339.out).mono ?_); rintro e w427 ⟨rfl, hb⟩; refine ⟨_, rfl, ?_⟩; replace BK475 := bb_ BK475 hb; replace BK476 := bb_ BK476 hb; replace BK482 := bb_ BK482 hb; replace BK488 := bb_ BK488 hb; replace BK495 := bb_ BK495 hb; replace BK501 := bb_ BK501 hb; replace BK507 := bb_ BK507 hb; replace BK512 := bb_ BK512 hb; replace BK518 := bb_ BK518 hb; replace BK524 := bb_ BK524 hb; replace BK530 := bb_ BK530 hb; replace BK536 := bb_ BK536 hb; replace BK542 := bb_ BK542 hb; replace BK551 := bb_ BK551 hb; replace BK552 := bb_ BK552 hb; replace HB := bt_ HB hb; (try clear hb)) | ((with_reducible refine gd_ 39 ?_); refine by_ 39 #[.int .i64 0, .int .i64 0, .int .i64 0, .int .i64 0] 26 HB ?_; intro gb583 hg w428 BK583 hb GW583 HB_; have NB475_583 := bm_ BK475 hg; have NB583_475 := bn_ BK475 hg; have NB476_583 := bm_ BK476 hg; have NB583_476 := bn_ BK476 hg; have NB482_583 := bm_ BK482 hg; have NB583_482 := bn_ BK482 hg; have NB488_583 := bm_ BK488 hg; have NB583_488 := bn_ BK488 hg; have NB495_583 := bm_ BK495 hg; have NB583_495 := bn_ BK495 hg; have NB501_583 := bm_ BK501 hg; have NB583_501 := bn_ BK501 hg; have NB507_583 := bm_ BK507 hg; have NB583_507 := bn_ BK507 hg; have NB512_583 := bm_ BK512 hg; have NB583_512 := bn_ BK512 hg; have NB518_583 := bm_ BK518 hg; have NB583_518 := bn_ BK518 hg; have NB524_583 := bm_ BK524 hg; have NB583_524 := bn_ BK524 hg; have NB530_583 := bm_ BK530 hg; have NB583_530 := bn_ BK530 hg; have NB536_583 := bm_ BK536 hg; have NB583_536 := bn_ BK536 hg; have NB542_583 := bm_ BK542 hg; have NB583_542 := bn_ BK542 hg; have NB551_583 := bm_ BK551 hg; have NB583_551 := bn_ BK551 hg; have NB552_583 := bm_ BK552 hg; have NB583_552 := bn_ BK552 hg; replace BK475 := bb_ BK475 hb; replace BK476 := bb_ BK476 hb; replace BK482 := bb_ BK482 hb; replace BK488 := bb_ BK488 hb; replace BK495 := bb_ BK495 hb; replace BK501 := bb_ BK501 hb; replace BK507 := bb_ BK507 hb; replace BK512 := bb_ BK512 hb; replace BK518 := bb_ BK518 hb; replace BK524 := bb_ BK524 hb; replace BK530 := bb_ BK530 hb; replace BK536 := bb_ BK536 hb; replace BK542 := bb_ BK542 hb; replace BK551 := bb_ BK551 hb; replace BK552 := bb_ BK552 hb; replace HB := HB_; clear hb hg; have hnb439 := NB583_530.out; have hnc439 := NB530_583.out; have hnb440 := NB583_536.out; have hnc440 := NB536_583.out; obtain ⟨hcz444_0, hcz444_1, hcz444_2, hcz444_3, hfz444_0, hfz444_1, hfz444_2, hfz444_3⟩ := ch4_ BK583; obtain ⟨hcz458_0, hcz458_1, hcz458_2, hcz458_3, hfz458_0, hfz458_1, hfz458_2, hfz458_3⟩ := ch4_ BK536; obtain ⟨hcz459_0, hcz459_1, hcz459_2, hcz459_3, hfz459_0, hfz459_1, hfz459_2, hfz459_3⟩ := ch4_ BK530) | ((with_reducible refine gc_ 6 ?_); refine ge_ 248 Try.func6 #[.agg #[.int .i64 t531, .int .i64 t532, .int .i64 t533, .int .i64 t534], .agg #[.int .i64 t525, .int .i64 t526, .int .i64 t527, .int .i64 t528]] ?_; (with_reducible refine (impl_MultiplyMatrices.calls kj334 t531 t532 t533 t534 t525 t526 t527 t528 t584 t585 t586 t587 t588 _ A340.out).mono ?_); rintro e w460 ⟨rfl, hb⟩; refine ⟨_, rfl, ?_⟩; replace BK475 := fb_ BK475 NB475_583 hb; replace BK476 := fb_ BK476 NB476_583 hb; replace BK482 := fb_ BK482 NB482_583 hb; replace BK488 := fb_ BK488 NB488_583 hb; replace BK495 := fb_ BK495 NB495_583 hb; replace BK501 := fb_ BK501 NB501_583 hb; replace BK507 := fb_ BK507 NB507_583 hb; replace BK512 := fb_ BK512 NB512_583 hb; replace BK518 := fb_ BK518 NB518_583 hb; replace BK524 := fb_ BK524 NB524_583 hb; replace BK530 := fb_ BK530 NB530_583 hb; replace BK536 := fb_ BK536 NB536_583 hb; replace BK542 := fb_ BK542 NB542_583 hb; replace BK551 := fb_ BK551 NB551_583 hb; replace BK552 := fb_ BK552 NB552_583 hb; replace BK583 := Aside0.mk (blk_below (g := gb583) (o := .cells #[.int .i64 t578, .int .i64 t579, .int .i64 t580, .int .i64 t581] 26 (0, 0)) (bp_ BK583).out hb); replace HB := bt_ HB hb; (try clear hb)) | ((with_reducible refine gd_ 41 ?_); refine by_ 41 #[.int .i64 0, .int .i64 0, .int .i64 0, .int .i64 0] 26 HB ?_; intro gb589 hg w461 BK589 hb GW589 HB_; have NB475_589 := bm_ BK475 hg; have NB589_475 := bn_ BK475 hg; have NB476_589 := bm_ BK476 hg; have NB589_476 := bn_ BK476 hg; have NB482_589 := bm_ BK482 hg; have NB589_482 := bn_ BK482 hg; have NB488_589 := bm_ BK488 hg; have NB589_488 := bn_ BK488 hg; have NB495_589 := bm_ BK495 hg; have NB589_495 := bn_ BK495 hg; have NB501_589 := bm_ BK501 hg; have NB589_501 := bn_ BK501 hg; have NB507_589 := bm_ BK507 hg; have NB589_507 := bn_ BK507 hg; have NB512_589 := bm_ BK512 hg; have NB589_512 := bn_ BK512 hg; have NB518_589 := bm_ BK518 hg; have NB589_518 := bn_ BK518 hg; have NB524_589 := bm_ BK524 hg; have NB589_524 := bn_ BK524 hg; have NB530_589 := bm_ BK530 hg; have NB589_530 := bn_ BK530 hg; have NB536_589 := bm_ BK536 hg; have NB589_536 := bn_ BK536 hg; have NB542_589 := bm_ BK542 hg; have NB589_542 := bn_ BK542 hg; have NB551_589 := bm_ BK551 hg; have NB589_551 := bn_ BK551 hg; have NB552_589 := bm_ BK552 hg; have NB589_552 := bn_ BK552 hg; have NB583_589 := bm_ BK583 hg; have NB589_583 := bn_ BK583 hg; replace BK475 := bb_ BK475 hb; replace BK476 := bb_ BK476 hb; replace BK482 := bb_ BK482 hb; replace BK488 := bb_ BK488 hb; replace BK495 := bb_ BK495 hb; replace BK501 := bb_ BK501 hb; replace BK507 := bb_ BK507 hb; replace BK512 := bb_ BK512 hb; replace BK518 := bb_ BK518 hb; replace BK524 := bb_ BK524 hb; replace BK530 := bb_ BK530 hb; replace BK536 := bb_ BK536 hb; replace BK542 := bb_ BK542 hb; replace BK551 := bb_ BK551 hb; replace BK552 := bb_ BK552 hb; replace BK583 := bb_ BK583 hb; replace HB := HB_; clear hb hg; (try clear hcz444_0 hcz444_1 hcz444_2 hcz444_3 hfz444_0 hfz444_1 hfz444_2 hfz444_3); (try clear hcz458_0 hcz458_1 hcz458_2 hcz458_3 hfz458_0 hfz458_1 hfz458_2 hfz458_3); (try clear hcz459_0 hcz459_1 hcz459_2 hcz459_3 hfz459_0 hfz459_1 hfz459_2 hfz459_3); obtain ⟨hcz478_0, hcz478_1, hcz478_2, hcz478_3, hfz478_0, hfz478_1, hfz478_2, hfz478_3⟩ := ch4_ BK589))
          go_meet
          case rel => exact ⟨_, H', ⟨by have := HJ31.out; have := HJ234.out; have := HJ334.out; first | omega | exact Nat.le_refl _⟩, fl_ BK475 NB475_589, fl_ BK476 NB476_589, fl_ BK482 NB482_589, fl_ BK488 NB488_589, fl_ BK495 NB495_589, fl_ BK501 NB501_589, fl_ BK507 NB507_589, fl_ BK512 NB512_589, fl_ BK518 NB518_589, fl_ BK524 NB524_589, fl_ BK530 NB530_589, fl_ BK536 NB536_589, fl_ BK542 NB542_589, fl_ BK551 NB551_589, fl_ BK552 NB552_589, bw_ HB⟩
         (first | rw [c341b0] | (simp only [i64_w, i32_w]; rw [c341b0]) | skip)
         have H' := Aside0.mk H
         clear H
         obtain ⟨hcz493_0, hcz493_1, hcz493_2, hcz493_3, hfz493_0, hfz493_1, hfz493_2, hfz493_3⟩ := ch4_ BK530
         go_wp2_with (first | ((with_reducible refine gc_ 17 ?_); refine ge_ 242 Try.func17 #[.agg #[.int .i64 t525, .int .i64 t526, .int .i64 t527, .int .i64 t528], .int .i64 (wrap64 (t529 + 1))] ?_; (with_reducible refine (impl_PowerMatrix.calls kj334 t525 t526 t527 t528 (wrap64 (t529 + 1)) t578 t579 t580 t581 t582 _ A339.out).mono ?_); rintro e w494 ⟨rfl, hb⟩; refine ⟨_, rfl, ?_⟩; replace BK475 := bb_ BK475 hb; replace BK476 := bb_ BK476 hb; replace BK482 := bb_ BK482 hb; replace BK488 := bb_ BK488 hb; replace BK495 := bb_ BK495 hb; replace BK501 := bb_ BK501 hb; replace BK507 := bb_ BK507 hb; replace BK512 := bb_ BK512 hb; replace BK518 := bb_ BK518 hb; replace BK524 := bb_ BK524 hb; replace BK530 := bb_ BK530 hb; replace BK536 := bb_ BK536 hb; replace BK542 := bb_ BK542 hb; replace BK551 := bb_ BK551 hb; replace BK552 := bb_ BK552 hb; replace HB := bt_ HB hb; (try clear hb)) | ((with_reducible refine gd_ 39 ?_); refine by_ 39 #[.int .i64 0, .int .i64 0, .int .i64 0, .int .i64 0] 26 HB ?_; intro gb583 hg w495 BK583 hb GW583 HB_; have NB475_583 := bm_ BK475 hg; have NB583_475 := bn_ BK475 hg; have NB476_583 := bm_ BK476 hg; have NB583_476 := bn_ BK476 hg; have NB482_583 := bm_ BK482 hg; have NB583_482 := bn_ BK482 hg; have NB488_583 := bm_ BK488 hg; have NB583_488 := bn_ BK488 hg; have NB495_583 := bm_ BK495 hg; have NB583_495 := bn_ BK495 hg; have NB501_583 := bm_ BK501 hg; have NB583_501 := bn_ BK501 hg; have NB507_583 := bm_ BK507 hg; have NB583_507 := bn_ BK507 hg; have NB512_583 := bm_ BK512 hg; have NB583_512 := bn_ BK512 hg; have NB518_583 := bm_ BK518 hg; have NB583_518 := bn_ BK518 hg; have NB524_583 := bm_ BK524 hg; have NB583_524 := bn_ BK524 hg; have NB530_583 := bm_ BK530 hg; have NB583_530 := bn_ BK530 hg; have NB536_583 := bm_ BK536 hg; have NB583_536 := bn_ BK536 hg; have NB542_583 := bm_ BK542 hg; have NB583_542 := bn_ BK542 hg; have NB551_583 := bm_ BK551 hg; have NB583_551 := bn_ BK551 hg; have NB552_583 := bm_ BK552 hg; have NB583_552 := bn_ BK552 hg; replace BK475 := bb_ BK475 hb; replace BK476 := bb_ BK476 hb; replace BK482 := bb_ BK482 hb; replace BK488 := bb_ BK488 hb; replace BK495 := bb_ BK495 hb; replace BK501 := bb_ BK501 hb; replace BK507 := bb_ BK507 hb; replace BK512 := bb_ BK512 hb; replace BK518 := bb_ BK518 hb; replace BK524 := bb_ BK524 hb; replace BK530 := bb_ BK530 hb; replace BK536 := bb_ BK536 hb; replace BK542 := bb_ BK542 hb; replace BK551 := bb_ BK551 hb; replace BK552 := bb_ BK552 hb; replace HB := HB_; clear hb hg; have hnb506 := NB583_530.out; have hnc506 := NB530_583.out; have hnb507 := NB583_536.out; have hnc507 := NB536_583.out; obtain ⟨hcz511_0, hcz511_1, hcz511_2, hcz511_3, hfz511_0, hfz511_1, hfz511_2, hfz511_3⟩ := ch4_ BK583; obtain ⟨hcz525_0, hcz525_1, hcz525_2, hcz525_3, hfz525_0, hfz525_1, hfz525_2, hfz525_3⟩ := ch4_ BK536; obtain ⟨hcz526_0, hcz526_1, hcz526_2, hcz526_3, hfz526_0, hfz526_1, hfz526_2, hfz526_3⟩ := ch4_ BK530) | ((with_reducible refine gc_ 6 ?_); refine ge_ 248 Try.func6 #[.agg #[.int .i64 t531, .int .i64 t532, .int .i64 t533, .int .i64 t534], .agg #[.int .i64 t525, .int .i64 t526, .int .i64 t527, .int .i64 t528]] ?_; (with_reducible refine (impl_MultiplyMatrices.calls kj334 t531 t532 t533 t534 t525 t526 t527 t528 t584 t585 t586 t587 t588 _ A340.out).mono ?_); rintro e w527 ⟨rfl, hb⟩; refine ⟨_, rfl, ?_⟩; replace BK475 := fb_ BK475 NB475_583 hb; replace BK476 := fb_ BK476 NB476_583 hb; replace BK482 := fb_ BK482 NB482_583 hb; replace BK488 := fb_ BK488 NB488_583 hb; replace BK495 := fb_ BK495 NB495_583 hb; replace BK501 := fb_ BK501 NB501_583 hb; replace BK507 := fb_ BK507 NB507_583 hb; replace BK512 := fb_ BK512 NB512_583 hb; replace BK518 := fb_ BK518 NB518_583 hb; replace BK524 := fb_ BK524 NB524_583 hb; replace BK530 := fb_ BK530 NB530_583 hb; replace BK536 := fb_ BK536 NB536_583 hb; replace BK542 := fb_ BK542 NB542_583 hb; replace BK551 := fb_ BK551 NB551_583 hb; replace BK552 := fb_ BK552 NB552_583 hb; replace BK583 := Aside0.mk (blk_below (g := gb583) (o := .cells #[.int .i64 t578, .int .i64 t579, .int .i64 t580, .int .i64 t581] 26 (0, 0)) (bp_ BK583).out hb); replace HB := bt_ HB hb; (try clear hb)) | ((with_reducible refine gd_ 41 ?_); refine by_ 41 #[.int .i64 0, .int .i64 0, .int .i64 0, .int .i64 0] 26 HB ?_; intro gb589 hg w528 BK589 hb GW589 HB_; have NB475_589 := bm_ BK475 hg; have NB589_475 := bn_ BK475 hg; have NB476_589 := bm_ BK476 hg; have NB589_476 := bn_ BK476 hg; have NB482_589 := bm_ BK482 hg; have NB589_482 := bn_ BK482 hg; have NB488_589 := bm_ BK488 hg; have NB589_488 := bn_ BK488 hg; have NB495_589 := bm_ BK495 hg; have NB589_495 := bn_ BK495 hg; have NB501_589 := bm_ BK501 hg; have NB589_501 := bn_ BK501 hg; have NB507_589 := bm_ BK507 hg; have NB589_507 := bn_ BK507 hg; have NB512_589 := bm_ BK512 hg; have NB589_512 := bn_ BK512 hg; have NB518_589 := bm_ BK518 hg; have NB589_518 := bn_ BK518 hg; have NB524_589 := bm_ BK524 hg; have NB589_524 := bn_ BK524 hg; have NB530_589 := bm_ BK530 hg; have NB589_530 := bn_ BK530 hg; have NB536_589 := bm_ BK536 hg; have NB589_536 := bn_ BK536 hg; have NB542_589 := bm_ BK542 hg; have NB589_542 := bn_ BK542 hg; have NB551_589 := bm_ BK551 hg; have NB589_551 := bn_ BK551 hg; have NB552_589 := bm_ BK552 hg; have NB589_552 := bn_ BK552 hg; have NB583_589 := bm_ BK583 hg; have NB589_583 := bn_ BK583 hg; replace BK475 := bb_ BK475 hb; replace BK476 := bb_ BK476 hb; replace BK482 := bb_ BK482 hb; replace BK488 := bb_ BK488 hb; replace BK495 := bb_ BK495 hb; replace BK501 := bb_ BK501 hb; replace BK507 := bb_ BK507 hb; replace BK512 := bb_ BK512 hb; replace BK518 := bb_ BK518 hb; replace BK524 := bb_ BK524 hb; replace BK530 := bb_ BK530 hb; replace BK536 := bb_ BK536 hb; replace BK542 := bb_ BK542 hb; replace BK551 := bb_ BK551 hb; replace BK552 := bb_ BK552 hb; replace BK583 := bb_ BK583 hb; replace HB := HB_; clear hb hg; (try clear hcz511_0 hcz511_1 hcz511_2 hcz511_3 hfz511_0 hfz511_1 hfz511_2 hfz511_3); (try clear hcz525_0 hcz525_1 hcz525_2 hcz525_3 hfz525_0 hfz525_1 hfz525_2 hfz525_3); (try clear hcz526_0 hcz526_1 hcz526_2 hcz526_3 hfz526_0 hfz526_1 hfz526_2 hfz526_3); obtain ⟨hcz545_0, hcz545_1, hcz545_2, hcz545_3, hfz545_0, hfz545_1, hfz545_2, hfz545_3⟩ := ch4_ BK589))
         go_meet
         case rel => exact ⟨_, H', ⟨by have := HJ31.out; have := HJ234.out; have := HJ334.out; first | omega | exact Nat.le_refl _⟩, fl_ BK475 NB475_589, fl_ BK476 NB476_589, fl_ BK482 NB482_589, fl_ BK488 NB488_589, fl_ BK495 NB495_589, fl_ BK501 NB501_589, fl_ BK507 NB507_589, fl_ BK512 NB512_589, fl_ BK518 NB518_589, fl_ BK524 NB524_589, fl_ BK530 NB530_589, fl_ BK536 NB536_589, fl_ BK542 NB542_589, fl_ BK551 NB551_589, fl_ BK552 NB552_589, bw_ HB⟩
        have H' := Aside0.mk H
        clear H
        go_wp2
        go_meet
        case rel => exact ⟨_, H', ⟨by have := HJ31.out; have := HJ234.out; have := HJ334.out; first | omega | exact Nat.le_refl _⟩, bl_ BK475, bl_ BK476, bl_ BK482, bl_ BK488, bl_ BK495, bl_ BK501, bl_ BK507, bl_ BK512, bl_ BK518, bl_ BK524, bl_ BK530, bl_ BK536, bl_ BK542, bl_ BK551, bl_ BK552, bw_ HB⟩
       case rest => as_aux_lemma =>
        clear HC337
        try clear c21
        try clear c26
        try clear c31
        try clear c236
        try clear c236b0
        try clear c236b1
        try clear c240b0
        try clear c240b1
        try clear c241
        try clear c241b0
        try clear c242b0
        try clear c242b1
        try clear c243b0
        try clear c243b1
        try clear c244
        try clear c244b0
        try clear c336
        try clear c336b0
        try clear c336b1
        try clear c341
        try clear c341b0
        try clear c341b1
        try clear c342
        try clear c342b0
        try clear c342b1
        try clear c343
        try clear c343b0
        try clear hcz102_0 hcz102_1 hcz102_2 hcz102_3
        try clear hcz103_0 hcz103_1 hcz103_2 hcz103_3
        try clear hcz115_0 hcz115_1 hcz115_2 hcz115_3
        try clear hcz116_0 hcz116_1 hcz116_2 hcz116_3
        try clear hcz129_0 hcz129_1 hcz129_2 hcz129_3
        try clear hcz143_0 hcz143_1 hcz143_2 hcz143_3
        try clear hcz144_0 hcz144_1 hcz144_2 hcz144_3
        try clear hcz159_0 hcz159_1 hcz159_2 hcz159_3
        try clear hcz160_0 hcz160_1 hcz160_2 hcz160_3
        try clear hcz178_0 hcz178_1 hcz178_2 hcz178_3
        try clear hcz192_0 hcz192_1 hcz192_2 hcz192_3
        try clear hcz194_0 hcz194_1 hcz194_2 hcz194_3
        try clear hcz195_0 hcz195_1 hcz195_2 hcz195_3
        try clear hcz217_0 hcz217_1 hcz217_2 hcz217_3
        try clear hcz231_0 hcz231_1 hcz231_2 hcz231_3
        try clear hcz233_0 hcz233_1 hcz233_2 hcz233_3
        try clear hcz259_0 hcz259_1 hcz259_2 hcz259_3
        try clear hcz273_0 hcz273_1 hcz273_2 hcz273_3
        try clear hcz291_0 hcz291_1 hcz291_2 hcz291_3
        try clear hcz292_0 hcz292_1 hcz292_2 hcz292_3
        try clear hcz311_0 hcz311_1 hcz311_2 hcz311_3
        try clear hcz312_0 hcz312_1 hcz312_2 hcz312_3
        try clear hcz332_0 hcz332_1 hcz332_2 hcz332_3
        try clear hcz333_0 hcz333_1 hcz333_2 hcz333_3
        try clear hcz334_0 hcz334_1 hcz334_2 hcz334_3
        try clear hcz358_0 hcz358_1 hcz358_2 hcz358_3
        try clear hcz376_0 hcz376_1 hcz376_2 hcz376_3
        try clear hcz37_0 hcz37_1 hcz37_2 hcz37_3
        try clear hcz38_0 hcz38_1 hcz38_2 hcz38_3
        try clear hcz390_0 hcz390_1 hcz390_2 hcz390_3
        try clear hcz391_0 hcz391_1 hcz391_2 hcz391_3
        try clear hcz410_0 hcz410_1 hcz410_2 hcz410_3
        try clear hcz411_0 hcz411_1 hcz411_2 hcz411_3
        try clear hcz426_0 hcz426_1 hcz426_2 hcz426_3
        try clear hcz43_0 hcz43_1 hcz43_2 hcz43_3
        try clear hcz444_0 hcz444_1 hcz444_2 hcz444_3
        try clear hcz44_0 hcz44_1 hcz44_2 hcz44_3
        try clear hcz458_0 hcz458_1 hcz458_2 hcz458_3
        try clear hcz459_0 hcz459_1 hcz459_2 hcz459_3
        try clear hcz45_0 hcz45_1 hcz45_2 hcz45_3
        try clear hcz478_0 hcz478_1 hcz478_2 hcz478_3
        try clear hcz493_0 hcz493_1 hcz493_2 hcz493_3
        try clear hcz511_0 hcz511_1 hcz511_2 hcz511_3
        try clear hcz51_0 hcz51_1 hcz51_2 hcz51_3
        try clear hcz525_0 hcz525_1 hcz525_2 hcz525_3
        try clear hcz526_0 hcz526_1 hcz526_2 hcz526_3
        try clear hcz545_0 hcz545_1 hcz545_2 hcz545_3
        try clear hcz62_0 hcz62_1 hcz62_2 hcz62_3
        try clear hcz70_0 hcz70_1 hcz70_2 hcz70_3
        try clear hcz71_0 hcz71_1 hcz71_2 hcz71_3
        try clear hcz80_0 hcz80_1 hcz80_2 hcz80_3
        try clear hcz81_0 hcz81_1 hcz81_2 hcz81_3
        try clear hcz91_0 hcz91_1 hcz91_2 hcz91_3
        try clear hfz102_0 hfz102_1 hfz102_2 hfz102_3
        try clear hfz103_0 hfz103_1 hfz103_2 hfz103_3
        try clear hfz115_0 hfz115_1 hfz115_2 hfz115_3
        try clear hfz116_0 hfz116_1 hfz116_2 hfz116_3
        try clear hfz129_0 hfz129_1 hfz129_2 hfz129_3
        try clear hfz143_0 hfz143_1 hfz143_2 hfz143_3
        try clear hfz144_0 hfz144_1 hfz144_2 hfz144_3
        try clear hfz159_0 hfz159_1 hfz159_2 hfz159_3
        try clear hfz160_0 hfz160_1 hfz160_2 hfz160_3
        try clear hfz178_0 hfz178_1 hfz178_2 hfz178_3
        try clear hfz192_0 hfz192_1 hfz192_2 hfz192_3
        try clear hfz194_0 hfz194_1 hfz194_2 hfz194_3
        try clear hfz195_0 hfz195_1 hfz195_2 hfz195_3
        try clear hfz217_0 hfz217_1 hfz217_2 hfz217_3
        try clear hfz231_0 hfz231_1 hfz231_2 hfz231_3
        try clear hfz233_0 hfz233_1 hfz233_2 hfz233_3
        try clear hfz259_0 hfz259_1 hfz259_2 hfz259_3
        try clear hfz273_0 hfz273_1 hfz273_2 hfz273_3
        try clear hfz291_0 hfz291_1 hfz291_2 hfz291_3
        try clear hfz292_0 hfz292_1 hfz292_2 hfz292_3
        try clear hfz311_0 hfz311_1 hfz311_2 hfz311_3
        try clear hfz312_0 hfz312_1 hfz312_2 hfz312_3
        try clear hfz332_0 hfz332_1 hfz332_2 hfz332_3
        try clear hfz333_0 hfz333_1 hfz333_2 hfz333_3
        try clear hfz334_0 hfz334_1 hfz334_2 hfz334_3
        try clear hfz358_0 hfz358_1 hfz358_2 hfz358_3
        try clear hfz376_0 hfz376_1 hfz376_2 hfz376_3
        try clear hfz37_0 hfz37_1 hfz37_2 hfz37_3
        try clear hfz38_0 hfz38_1 hfz38_2 hfz38_3
        try clear hfz390_0 hfz390_1 hfz390_2 hfz390_3
        try clear hfz391_0 hfz391_1 hfz391_2 hfz391_3
        try clear hfz410_0 hfz410_1 hfz410_2 hfz410_3
        try clear hfz411_0 hfz411_1 hfz411_2 hfz411_3
        try clear hfz426_0 hfz426_1 hfz426_2 hfz426_3
        try clear hfz43_0 hfz43_1 hfz43_2 hfz43_3
        try clear hfz444_0 hfz444_1 hfz444_2 hfz444_3
        try clear hfz44_0 hfz44_1 hfz44_2 hfz44_3
        try clear hfz458_0 hfz458_1 hfz458_2 hfz458_3
        try clear hfz459_0 hfz459_1 hfz459_2 hfz459_3
        try clear hfz45_0 hfz45_1 hfz45_2 hfz45_3
        try clear hfz478_0 hfz478_1 hfz478_2 hfz478_3
        try clear hfz493_0 hfz493_1 hfz493_2 hfz493_3
        try clear hfz511_0 hfz511_1 hfz511_2 hfz511_3
        try clear hfz51_0 hfz51_1 hfz51_2 hfz51_3
        try clear hfz525_0 hfz525_1 hfz525_2 hfz525_3
        try clear hfz526_0 hfz526_1 hfz526_2 hfz526_3
        try clear hfz545_0 hfz545_1 hfz545_2 hfz545_3
        try clear hfz62_0 hfz62_1 hfz62_2 hfz62_3
        try clear hfz70_0 hfz70_1 hfz70_2 hfz70_3
        try clear hfz71_0 hfz71_1 hfz71_2 hfz71_3
        try clear hfz80_0 hfz80_1 hfz80_2 hfz80_3
        try clear hfz81_0 hfz81_1 hfz81_2 hfz81_3
        try clear hfz91_0 hfz91_1 hfz91_2 hfz91_3
        obtain ⟨kq, HA, HJ336, BK475, BK476, BK482, BK488, BK495, BK501, BK507, BK512, BK518, BK524, BK530, BK536, BK542, BK551, BK552, HB⟩ := hcut
        cases kq with
        | zero => exact absurd HA.out (by simp [laws_FnMatrices.j3])
        | succ kj336 =>
         have H := HA.out
         clear HA
         simp only [laws_FnMatrices.j3] at H
         replace H := ie_ H
         rcases H with ⟨c546b0, c546b1, H⟩ | ⟨c546, c546b0, c546b1, H⟩
         ·replace H := oc_ H
          obtain ⟨⟨t590, t591, t592, t593, t594⟩, A547, H⟩ := H
          replace H := oc_ H
          obtain ⟨⟨t596, t597, t598, t599, t600⟩, A548, H⟩ := H
          replace H := oc_ H
          obtain ⟨⟨t602, t603, t604, t605, t606⟩, A549, H⟩ := H
          replace H := ie_ H
          rcases H with ⟨c550b0, c550b1, H⟩ | ⟨c550, c550b0, c550b1, H⟩
          ·replace H := ie_ H
           rcases H with ⟨c551b0, c551b1, H⟩ | ⟨c551, c551b0, c551b1, H⟩
           ·replace H := ie_ H
            rcases H with ⟨c552b0, c552b1, H⟩ | ⟨c552, c552b0, c552b1, H⟩
            ·obtain rfl := si_ H
             have hnb553 := NB482_475.out
             have hnc553 := NB475_482.out
             obtain ⟨hcz567_0, hcz567_1, hcz567_2, hcz567_3, hfz567_0, hfz567_1, hfz567_2, hfz567_3⟩ := ch4_ BK482
             obtain ⟨hcz581_0, hcz581_1, hcz581_2, hcz581_3, hfz581_0, hfz581_1, hfz581_2, hfz581_3⟩ := ch4_ BK475
             go_wp2_with (first | ((with_reducible refine gk_ ?_); first | ((with_reducible refine gc_ 6 ?_); refine ge_ 270 Try.func6 #[.agg #[.int .i64 t477, .int .i64 t478, .int .i64 t479, .int .i64 t480], .agg #[.int .i64 t467, .int .i64 t468, .int .i64 t469, .int .i64 t470]] ?_; (with_reducible refine (impl_MultiplyMatrices.calls kj336 t477 t478 t479 t480 t467 t468 t469 t470 t590 t591 t592 t593 t594 _ A547.out).mono ?_); rintro e w582 ⟨rfl, hb⟩; refine ⟨_, rfl, ?_⟩; replace BK475 := bb_ BK475 hb; replace BK476 := bb_ BK476 hb; replace BK482 := bb_ BK482 hb; replace BK488 := bb_ BK488 hb; replace BK495 := bb_ BK495 hb; replace BK501 := bb_ BK501 hb; replace BK507 := bb_ BK507 hb; replace BK512 := bb_ BK512 hb; replace BK518 := bb_ BK518 hb; replace BK524 := bb_ BK524 hb; replace BK530 := bb_ BK530 hb; replace BK536 := bb_ BK536 hb; replace BK542 := bb_ BK542 hb; replace BK551 := bb_ BK551 hb; replace BK552 := bb_ BK552 hb; replace HB := bt_ HB hb; (try clear hb)) | ((with_reducible refine gc_ 6 ?_); refine ge_ 276 Try.func6 #[.agg #[.int .i64 t471, .int .i64 t472, .int .i64 t473, .int .i64 t474], .agg #[.int .i64 t467, .int .i64 t468, .int .i64 t469, .int .i64 t470]] ?_; (with_reducible refine (impl_MultiplyMatrices.calls kj336 t471 t472 t473 t474 t467 t468 t469 t470 t596 t597 t598 t599 t600 _ A548.out).mono ?_); rintro e w614 ⟨rfl, hb⟩; refine ⟨_, rfl, ?_⟩; replace BK475 := fb_ BK475 NB475_595 hb; replace BK476 := fb_ BK476 NB476_595 hb; replace BK482 := fb_ BK482 NB482_595 hb; replace BK488 := fb_ BK488 NB488_595 hb; replace BK495 := fb_ BK495 NB495_595 hb; replace BK501 := fb_ BK501 NB501_595 hb; replace BK507 := fb_ BK507 NB507_595 hb; replace BK512 := fb_ BK512 NB512_595 hb; replace BK518 := fb_ BK518 NB518_595 hb; replace BK524 := fb_ BK524 NB524_595 hb; replace BK530 := fb_ BK530 NB530_595 hb; replace BK536 := fb_ BK536 NB536_595 hb; replace BK542 := fb_ BK542 NB542_595 hb; replace BK551 := fb_ BK551 NB551_595 hb; replace BK552 := fb_ BK552 NB552_595 hb; replace BK595 := Aside0.mk (blk_below (g := gb595) (o := .cells #[.int .i64 t590, .int .i64 t591, .int .i64 t592, .int .i64 t593] 26 (0, 0)) (bp_ BK595).out hb); replace HB := bt_ HB hb; (try clear hb)) | ((with_reducible refine gc_ 6 ?_); refine ge_ 282 Try.func6 #[.agg #[.int .i64 t467, .int .i64 t468, .int .i64 t469, .int .i64 t470], .agg #[.int .i64 t596, .int .i64 t597, .int .i64 t598, .int .i64 t599]] ?_; (with_reducible refine (impl_MultiplyMatrices.calls kj336 t467 t468 t469 t470 t596 t597 t598 t599 t602 t603 t604 t605 t606 _ A549.out).mono ?_); rintro e w634 ⟨rfl, hb⟩; refine ⟨_, rfl, ?_⟩; replace BK475 := fb_ BK475 NB475_601 hb; replace BK476 := fb_ BK476 NB476_601 hb; replace BK482 := fb_ BK482 NB482_601 hb; replace BK488 := fb_ BK488 NB488_601 hb; replace BK495 := fb_ BK495 NB495_601 hb; replace BK501 := fb_ BK501 NB501_601 hb; replace BK507 := fb_ BK507 NB507_601 hb; replace BK512 := fb_ BK512 NB512_601 hb; replace BK518 := fb_ BK518 NB518_601 hb; replace BK524 := fb_ BK524 NB524_601 hb; replace BK530 := fb_ BK530 NB530_601 hb; replace BK536 := fb_ BK536 NB536_601 hb; replace BK542 := fb_ BK542 NB542_601 hb; replace BK551 := fb_ BK551 NB551_601 hb; replace BK552 := fb_ BK552 NB552_601 hb; replace BK595 := fb_ BK595 NB595_601 hb; replace BK601 := Aside0.mk (blk_below (g := gb601) (o := .cells #[.int .i64 t596, .int .i64 t597, .int .i64 t598, .int .i64 t599] 26 (0, 0)) (bp_ BK601).out hb); replace HB := bt_ HB hb; (try clear hb))) | ((with_reducible refine gn_ ?_); first | ((with_reducible refine gd_ 43 ?_); refine by_ 43 #[.int .i64 0, .int .i64 0, .int .i64 0, .int .i64 0] 26 HB ?_; intro gb595 hg w583 BK595 hb GW595 HB_; have NB475_595 := bm_ BK475 hg; have NB595_475 := bn_ BK475 hg; have NB476_595 := bm_ BK476 hg; have NB595_476 := bn_ BK476 hg; have NB482_595 := bm_ BK482 hg; have NB595_482 := bn_ BK482 hg; have NB488_595 := bm_ BK488 hg; have NB595_488 := bn_ BK488 hg; have NB495_595 := bm_ BK495 hg; have NB595_495 := bn_ BK495 hg; have NB501_595 := bm_ BK501 hg; have NB595_501 := bn_ BK501 hg; have NB507_595 := bm_ BK507 hg; have NB595_507 := bn_ BK507 hg; have NB512_595 := bm_ BK512 hg; have NB595_512 := bn_ BK512 hg; have NB518_595 := bm_ BK518 hg; have NB595_518 := bn_ BK518 hg; have NB524_595 := bm_ BK524 hg; have NB595_524 := bn_ BK524 hg; have NB530_595 := bm_ BK530 hg; have NB595_530 := bn_ BK530 hg; have NB536_595 := bm_ BK536 hg; have NB595_536 := bn_ BK536 hg; have NB542_595 := bm_ BK542 hg; have NB595_542 := bn_ BK542 hg; have NB551_595 := bm_ BK551 hg; have NB595_551 := bn_ BK551 hg; have NB552_595 := bm_ BK552 hg; have NB595_552 := bn_ BK552 hg; replace BK475 := bb_ BK475 hb; replace BK476 := bb_ BK476 hb; replace BK482 := bb_ BK482 hb; replace BK488 := bb_ BK488 hb; replace BK495 := bb_ BK495 hb; replace BK501 := bb_ BK501 hb; replace BK507 := bb_ BK507 hb; replace BK512 := bb_ BK512 hb; replace BK518 := bb_ BK518 hb; replace BK524 := bb_ BK524 hb; replace BK530 := bb_ BK530 hb; replace BK536 := bb_ BK536 hb; replace BK542 := bb_ BK542 hb; replace BK551 := bb_ BK551 hb; replace BK552 := bb_ BK552 hb; replace HB := HB_; clear hb hg; have hnb584 := NB595_475.out; have hnc584 := NB475_595.out; have hnb585 := NB595_476.out; have hnc585 := NB476_595.out; obtain ⟨hcz599_0, hcz599_1, hcz599_2, hcz599_3, hfz599_0, hfz599_1, hfz599_2, hfz599_3⟩ := ch4_ BK595; obtain ⟨hcz612_0, hcz612_1, hcz612_2, hcz612_3, hfz612_0, hfz612_1, hfz612_2, hfz612_3⟩ := ch4_ BK476; obtain ⟨hcz613_0, hcz613_1, hcz613_2, hcz613_3, hfz613_0, hfz613_1, hfz613_2, hfz613_3⟩ := ch4_ BK475) | ((with_reducible refine gd_ 45 ?_); refine by_ 45 #[.int .i64 0, .int .i64 0, .int .i64 0, .int .i64 0] 26 HB ?_; intro gb601 hg w615 BK601 hb GW601 HB_; have NB475_601 := bm_ BK475 hg; have NB601_475 := bn_ BK475 hg; have NB476_601 := bm_ BK476 hg; have NB601_476 := bn_ BK476 hg; have NB482_601 := bm_ BK482 hg; have NB601_482 := bn_ BK482 hg; have NB488_601 := bm_ BK488 hg; have NB601_488 := bn_ BK488 hg; have NB495_601 := bm_ BK495 hg; have NB601_495 := bn_ BK495 hg; have NB501_601 := bm_ BK501 hg; have NB601_501 := bn_ BK501 hg; have NB507_601 := bm_ BK507 hg; have NB601_507 := bn_ BK507 hg; have NB512_601 := bm_ BK512 hg; have NB601_512 := bn_ BK512 hg; have NB518_601 := bm_ BK518 hg; have NB601_518 := bn_ BK518 hg; have NB524_601 := bm_ BK524 hg; have NB601_524 := bn_ BK524 hg; have NB530_601 := bm_ BK530 hg; have NB601_530 := bn_ BK530 hg; have NB536_601 := bm_ BK536 hg; have NB601_536 := bn_ BK536 hg; have NB542_601 := bm_ BK542 hg; have NB601_542 := bn_ BK542 hg; have NB551_601 := bm_ BK551 hg; have NB601_551 := bn_ BK551 hg; have NB552_601 := bm_ BK552 hg; have NB601_552 := bn_ BK552 hg; have NB595_601 := bm_ BK595 hg; have NB601_595 := bn_ BK595 hg; replace BK475 := bb_ BK475 hb; replace BK476 := bb_ BK476 hb; replace BK482 := bb_ BK482 hb; replace BK488 := bb_ BK488 hb; replace BK495 := bb_ BK495 hb; replace BK501 := bb_ BK501 hb; replace BK507 := bb_ BK507 hb; replace BK512 := bb_ BK512 hb; replace BK518 := bb_ BK518 hb; replace BK524 := bb_ BK524 hb; replace BK530 := bb_ BK530 hb; replace BK536 := bb_ BK536 hb; replace BK542 := bb_ BK542 hb; replace BK551 := bb_ BK551 hb; replace BK552 := bb_ BK552 hb; replace BK595 := bb_ BK595 hb; replace HB := HB_; clear hb hg; have hnb616 := NB601_475.out; have hnc616 := NB475_601.out; (try clear hcz599_0 hcz599_1 hcz599_2 hcz599_3 hfz599_0 hfz599_1 hfz599_2 hfz599_3); (try clear hcz612_0 hcz612_1 hcz612_2 hcz612_3 hfz612_0 hfz612_1 hfz612_2 hfz612_3); (try clear hcz613_0 hcz613_1 hcz613_2 hcz613_3 hfz613_0 hfz613_1 hfz613_2 hfz613_3); obtain ⟨hcz632_0, hcz632_1, hcz632_2, hcz632_3, hfz632_0, hfz632_1, hfz632_2, hfz632_3⟩ := ch4_ BK601; obtain ⟨hcz633_0, hcz633_1, hcz633_2, hcz633_3, hfz633_0, hfz633_1, hfz633_2, hfz633_3⟩ := ch4_ BK475) | ((with_reducible refine gd_ 47 ?_); refine by_ 47 #[.int .i64 0, .int .i64 0, .int .i64 0, .int .i64 0] 26 HB ?_; intro gb607 hg w635 BK607 hb GW607 HB_; have NB475_607 := bm_ BK475 hg; have NB607_475 := bn_ BK475 hg; have NB476_607 := bm_ BK476 hg; have NB607_476 := bn_ BK476 hg; have NB482_607 := bm_ BK482 hg; have NB607_482 := bn_ BK482 hg; have NB488_607 := bm_ BK488 hg; have NB607_488 := bn_ BK488 hg; have NB495_607 := bm_ BK495 hg; have NB607_495 := bn_ BK495 hg; have NB501_607 := bm_ BK501 hg; have NB607_501 := bn_ BK501 hg; have NB507_607 := bm_ BK507 hg; have NB607_507 := bn_ BK507 hg; have NB512_607 := bm_ BK512 hg; have NB607_512 := bn_ BK512 hg; have NB518_607 := bm_ BK518 hg; have NB607_518 := bn_ BK518 hg; have NB524_607 := bm_ BK524 hg; have NB607_524 := bn_ BK524 hg; have NB530_607 := bm_ BK530 hg; have NB607_530 := bn_ BK530 hg; have NB536_607 := bm_ BK536 hg; have NB607_536 := bn_ BK536 hg; have NB542_607 := bm_ BK542 hg; have NB607_542 := bn_ BK542 hg; have NB551_607 := bm_ BK551 hg; have NB607_551 := bn_ BK551 hg; have NB552_607 := bm_ BK552 hg; have NB607_552 := bn_ BK552 hg; have NB595_607 := bm_ BK595 hg; have NB607_595 := bn_ BK595 hg; have NB601_607 := bm_ BK601 hg; have NB607_601 := bn_ BK601 hg; replace BK475 := bb_ BK475 hb; replace BK476 := bb_ BK476 hb; replace BK482 := bb_ BK482 hb; replace BK488 := bb_ BK488 hb; replace BK495 := bb_ BK495 hb; replace BK501 := bb_ BK501 hb; replace BK507 := bb_ BK507 hb; replace BK512 := bb_ BK512 hb; replace BK518 := bb_ BK518 hb; replace BK524 := bb_ BK524 hb; replace BK530 := bb_ BK530 hb; replace BK536 := bb_ BK536 hb; replace BK542 := bb_ BK542 hb; replace BK551 := bb_ BK551 hb; replace BK552 := bb_ BK552 hb; replace BK595 := bb_ BK595 hb; replace BK601 := bb_ BK601 hb; replace HB := HB_; clear hb hg; have hnb651 := NB607_595.out; have hnc651 := NB595_607.out; (try clear hcz632_0 hcz632_1 hcz632_2 hcz632_3 hfz632_0 hfz632_1 hfz632_2 hfz632_3); (try clear hcz633_0 hcz633_1 hcz633_2 hcz633_3 hfz633_0 hfz633_1 hfz633_2 hfz633_3); obtain ⟨hcz653_0, hcz653_1, hcz653_2, hcz653_3, hfz653_0, hfz653_1, hfz653_2, hfz653_3⟩ := ch4_ BK607; obtain ⟨hcz654_0, hcz654_1, hcz654_2, hcz654_3, hfz654_0, hfz654_1, hfz654_2, hfz654_3⟩ := ch4_ BK595)))
             go_ret
             exact ⟨es_, (bw_ HB).out⟩
            obtain rfl := si_ H
            have hnb655 := NB482_475.out
            have hnc655 := NB475_482.out
            obtain ⟨hcz669_0, hcz669_1, hcz669_2, hcz669_3, hfz669_0, hfz669_1, hfz669_2, hfz669_3⟩ := ch4_ BK482
            obtain ⟨hcz683_0, hcz683_1, hcz683_2, hcz683_3, hfz683_0, hfz683_1, hfz683_2, hfz683_3⟩ := ch4_ BK475
            go_wp2_with (first | ((with_reducible refine gk_ ?_); first | ((with_reducible refine gc_ 6 ?_); refine ge_ 270 Try.func6 #[.agg #[.int .i64 t477, .int .i64 t478, .int .i64 t479, .int .i64 t480], .agg #[.int .i64 t467, .int .i64 t468, .int .i64 t469, .int .i64 t470]] ?_; (with_reducible refine (impl_MultiplyMatrices.calls kj336 t477 t478 t479 t480 t467 t468 t469 t470 t590 t591 t592 t593 t594 _ A547.out).mono ?_); rintro e w684 ⟨rfl, hb⟩; refine ⟨_, rfl, ?_⟩; replace BK475 := bb_ BK475 hb; replace BK476 := bb_ BK476 hb; replace BK482 := bb_ BK482 hb; replace BK488 := bb_ BK488 hb; replace BK495 := bb_ BK495 hb; replace BK501 := bb_ BK501 hb; replace BK507 := bb_ BK507 hb; replace BK512 := bb_ BK512 hb; replace BK518 := bb_ BK518 hb; replace BK524 := bb_ BK524 hb; replace BK530 := bb_ BK530 hb; replace BK536 := bb_ BK536 hb; replace BK542 := bb_ BK542 hb; replace BK551 := bb_ BK551 hb; replace BK552 := bb_ BK552 hb; replace HB := bt_ HB hb; (try clear hb)) | ((with_reducible refine gc_ 6 ?_); refine ge_ 276 Try.func6 #[.agg #[.int .i64 t471, .int .i64 t472, .int .i64 t473, .int .i64 t474], .agg #[.int .i64 t467, .int .i64 t468, .int .i64 t469, .int .i64 t470]] ?_; (with_reducible refine (impl_MultiplyMatrices.calls kj336 t471 t472 t473 t474 t467 t468 t469 t470 t596 t597 t598 t599 t600 _ A548.out).mono ?_); rintro e w716 ⟨rfl, hb⟩; refine ⟨_, rfl, ?_⟩; replace BK475 := fb_ BK475 NB475_595 hb; replace BK476 := fb_ BK476 NB476_595 hb; replace BK482 := fb_ BK482 NB482_595 hb; replace BK488 := fb_ BK488 NB488_595 hb; replace BK495 := fb_ BK495 NB495_595 hb; replace BK501 := fb_ BK501 NB501_595 hb; replace BK507 := fb_ BK507 NB507_595 hb; replace BK512 := fb_ BK512 NB512_595 hb; replace BK518 := fb_ BK518 NB518_595 hb; replace BK524 := fb_ BK524 NB524_595 hb; replace BK530 := fb_ BK530 NB530_595 hb; replace BK536 := fb_ BK536 NB536_595 hb; replace BK542 := fb_ BK542 NB542_595 hb; replace BK551 := fb_ BK551 NB551_595 hb; replace BK552 := fb_ BK552 NB552_595 hb; replace BK595 := Aside0.mk (blk_below (g := gb595) (o := .cells #[.int .i64 t590, .int .i64 t591, .int .i64 t592, .int .i64 t593] 26 (0, 0)) (bp_ BK595).out hb); replace HB := bt_ HB hb; (try clear hb)) | ((with_reducible refine gc_ 6 ?_); refine ge_ 282 Try.func6 #[.agg #[.int .i64 t467, .int .i64 t468, .int .i64 t469, .int .i64 t470], .agg #[.int .i64 t596, .int .i64 t597, .int .i64 t598, .int .i64 t599]] ?_; (with_reducible refine (impl_MultiplyMatrices.calls kj336 t467 t468 t469 t470 t596 t597 t598 t599 t602 t603 t604 t605 t606 _ A549.out).mono ?_); rintro e w736 ⟨rfl, hb⟩; refine ⟨_, rfl, ?_⟩; replace BK475 := fb_ BK475 NB475_601 hb; replace BK476 := fb_ BK476 NB476_601 hb; replace BK482 := fb_ BK482 NB482_601 hb; replace BK488 := fb_ BK488 NB488_601 hb; replace BK495 := fb_ BK495 NB495_601 hb; replace BK501 := fb_ BK501 NB501_601 hb; replace BK507 := fb_ BK507 NB507_601 hb; replace BK512 := fb_ BK512 NB512_601 hb; replace BK518 := fb_ BK518 NB518_601 hb; replace BK524 := fb_ BK524 NB524_601 hb; replace BK530 := fb_ BK530 NB530_601 hb; replace BK536 := fb_ BK536 NB536_601 hb; replace BK542 := fb_ BK542 NB542_601 hb; replace BK551 := fb_ BK551 NB551_601 hb; replace BK552 := fb_ BK552 NB552_601 hb; replace BK595 := fb_ BK595 NB595_601 hb; replace BK601 := Aside0.mk (blk_below (g := gb601) (o := .cells #[.int .i64 t596, .int .i64 t597, .int .i64 t598, .int .i64 t599] 26 (0, 0)) (bp_ BK601).out hb); replace HB := bt_ HB hb; (try clear hb))) | ((with_reducible refine gn_ ?_); first | ((with_reducible refine gd_ 43 ?_); refine by_ 43 #[.int .i64 0, .int .i64 0, .int .i64 0, .int .i64 0] 26 HB ?_; intro gb595 hg w685 BK595 hb GW595 HB_; have NB475_595 := bm_ BK475 hg; have NB595_475 := bn_ BK475 hg; have NB476_595 := bm_ BK476 hg; have NB595_476 := bn_ BK476 hg; have NB482_595 := bm_ BK482 hg; have NB595_482 := bn_ BK482 hg; have NB488_595 := bm_ BK488 hg; have NB595_488 := bn_ BK488 hg; have NB495_595 := bm_ BK495 hg; have NB595_495 := bn_ BK495 hg; have NB501_595 := bm_ BK501 hg; have NB595_501 := bn_ BK501 hg; have NB507_595 := bm_ BK507 hg; have NB595_507 := bn_ BK507 hg; have NB512_595 := bm_ BK512 hg; have NB595_512 := bn_ BK512 hg; have NB518_595 := bm_ BK518 hg; have NB595_518 := bn_ BK518 hg; have NB524_595 := bm_ BK524 hg; have NB595_524 := bn_ BK524 hg; have NB530_595 := bm_ BK530 hg; have NB595_530 := bn_ BK530 hg; have NB536_595 := bm_ BK536 hg; have NB595_536 := bn_ BK536 hg; have NB542_595 := bm_ BK542 hg; have NB595_542 := bn_ BK542 hg; have NB551_595 := bm_ BK551 hg; have NB595_551 := bn_ BK551 hg; have NB552_595 := bm_ BK552 hg; have NB595_552 := bn_ BK552 hg; replace BK475 := bb_ BK475 hb; replace BK476 := bb_ BK476 hb; replace BK482 := bb_ BK482 hb; replace BK488 := bb_ BK488 hb; replace BK495 := bb_ BK495 hb; replace BK501 := bb_ BK501 hb; replace BK507 := bb_ BK507 hb; replace BK512 := bb_ BK512 hb; replace BK518 := bb_ BK518 hb; replace BK524 := bb_ BK524 hb; replace BK530 := bb_ BK530 hb; replace BK536 := bb_ BK536 hb; replace BK542 := bb_ BK542 hb; replace BK551 := bb_ BK551 hb; replace BK552 := bb_ BK552 hb; replace HB := HB_; clear hb hg; have hnb686 := NB595_475.out; have hnc686 := NB475_595.out; have hnb687 := NB595_476.out; have hnc687 := NB476_595.out; obtain ⟨hcz701_0, hcz701_1, hcz701_2, hcz701_3, hfz701_0, hfz701_1, hfz701_2, hfz701_3⟩ := ch4_ BK595; obtain ⟨hcz714_0, hcz714_1, hcz714_2, hcz714_3, hfz714_0, hfz714_1, hfz714_2, hfz714_3⟩ := ch4_ BK476; obtain ⟨hcz715_0, hcz715_1, hcz715_2, hcz715_3, hfz715_0, hfz715_1, hfz715_2, hfz715_3⟩ := ch4_ BK475) | ((with_reducible refine gd_ 45 ?_); refine by_ 45 #[.int .i64 0, .int .i64 0, .int .i64 0, .int .i64 0] 26 HB ?_; intro gb601 hg w717 BK601 hb GW601 HB_; have NB475_601 := bm_ BK475 hg; have NB601_475 := bn_ BK475 hg; have NB476_601 := bm_ BK476 hg; have NB601_476 := bn_ BK476 hg; have NB482_601 := bm_ BK482 hg; have NB601_482 := bn_ BK482 hg; have NB488_601 := bm_ BK488 hg; have NB601_488 := bn_ BK488 hg; have NB495_601 := bm_ BK495 hg; have NB601_495 := bn_ BK495 hg; have NB501_601 := bm_ BK501 hg; have NB601_501 := bn_ BK501 hg; have NB507_601 := bm_ BK507 hg; have NB601_507 := bn_ BK507 hg; have NB512_601 := bm_ BK512 hg; have NB601_512 := bn_ BK512 hg; have NB518_601 := bm_ BK518 hg; have NB601_518 := bn_ BK518 hg; have NB524_601 := bm_ BK524 hg; have NB601_524 := bn_ BK524 hg; have NB530_601 := bm_ BK530 hg; have NB601_530 := bn_ BK530 hg; have NB536_601 := bm_ BK536 hg; have NB601_536 := bn_ BK536 hg; have NB542_601 := bm_ BK542 hg; have NB601_542 := bn_ BK542 hg; have NB551_601 := bm_ BK551 hg; have NB601_551 := bn_ BK551 hg; have NB552_601 := bm_ BK552 hg; have NB601_552 := bn_ BK552 hg; have NB595_601 := bm_ BK595 hg; have NB601_595 := bn_ BK595 hg; replace BK475 := bb_ BK475 hb; replace BK476 := bb_ BK476 hb; replace BK482 := bb_ BK482 hb; replace BK488 := bb_ BK488 hb; replace BK495 := bb_ BK495 hb; replace BK501 := bb_ BK501 hb; replace BK507 := bb_ BK507 hb; replace BK512 := bb_ BK512 hb; replace BK518 := bb_ BK518 hb; replace BK524 := bb_ BK524 hb; replace BK530 := bb_ BK530 hb; replace BK536 := bb_ BK536 hb; replace BK542 := bb_ BK542 hb; replace BK551 := bb_ BK551 hb; replace BK552 := bb_ BK552 hb; replace BK595 := bb_ BK595 hb; replace HB := HB_; clear hb hg; have hnb718 := NB601_475.out; have hnc718 := NB475_601.out; (try clear hcz701_0 hcz701_1 hcz701_2 hcz701_3 hfz701_0 hfz701_1 hfz701_2 hfz701_3); (try clear hcz714_0 hcz714_1 hcz714_2 hcz714_3 hfz714_0 hfz714_1 hfz714_2 hfz714_3); (try clear hcz715_0 hcz715_1 hcz715_2 hcz715_3 hfz715_0 hfz715_1 hfz715_2 hfz715_3); obtain ⟨hcz734_0, hcz734_1, hcz734_2, hcz734_3, hfz734_0, hfz734_1, hfz734_2, hfz734_3⟩ := ch4_ BK601; obtain ⟨hcz735_0, hcz735_1, hcz735_2, hcz735_3, hfz735_0, hfz735_1, hfz735_2, hfz735_3⟩ := ch4_ BK475) | ((with_reducible refine gd_ 47 ?_); refine by_ 47 #[.int .i64 0, .int .i64 0, .int .i64 0, .int .i64 0] 26 HB ?_; intro gb607 hg w737 BK607 hb GW607 HB_; have NB475_607 := bm_ BK475 hg; have NB607_475 := bn_ BK475 hg; have NB476_607 := bm_ BK476 hg; have NB607_476 := bn_ BK476 hg; have NB482_607 := bm_ BK482 hg; have NB607_482 := bn_ BK482 hg; have NB488_607 := bm_ BK488 hg; have NB607_488 := bn_ BK488 hg; have NB495_607 := bm_ BK495 hg; have NB607_495 := bn_ BK495 hg; have NB501_607 := bm_ BK501 hg; have NB607_501 := bn_ BK501 hg; have NB507_607 := bm_ BK507 hg; have NB607_507 := bn_ BK507 hg; have NB512_607 := bm_ BK512 hg; have NB607_512 := bn_ BK512 hg; have NB518_607 := bm_ BK518 hg; have NB607_518 := bn_ BK518 hg; have NB524_607 := bm_ BK524 hg; have NB607_524 := bn_ BK524 hg; have NB530_607 := bm_ BK530 hg; have NB607_530 := bn_ BK530 hg; have NB536_607 := bm_ BK536 hg; have NB607_536 := bn_ BK536 hg; have NB542_607 := bm_ BK542 hg; have NB607_542 := bn_ BK542 hg; have NB551_607 := bm_ BK551 hg; have NB607_551 := bn_ BK551 hg; have NB552_607 := bm_ BK552 hg; have NB607_552 := bn_ BK552 hg; have NB595_607 := bm_ BK595 hg; have NB607_595 := bn_ BK595 hg; have NB601_607 := bm_ BK601 hg; have NB607_601 := bn_ BK601 hg; replace BK475 := bb_ BK475 hb; replace BK476 := bb_ BK476 hb; replace BK482 := bb_ BK482 hb; replace BK488 := bb_ BK488 hb; replace BK495 := bb_ BK495 hb; replace BK501 := bb_ BK501 hb; replace BK507 := bb_ BK507 hb; replace BK512 := bb_ BK512 hb; replace BK518 := bb_ BK518 hb; replace BK524 := bb_ BK524 hb; replace BK530 := bb_ BK530 hb; replace BK536 := bb_ BK536 hb; replace BK542 := bb_ BK542 hb; replace BK551 := bb_ BK551 hb; replace BK552 := bb_ BK552 hb; replace BK595 := bb_ BK595 hb; replace BK601 := bb_ BK601 hb; replace HB := HB_; clear hb hg; (try clear hcz734_0 hcz734_1 hcz734_2 hcz734_3 hfz734_0 hfz734_1 hfz734_2 hfz734_3); (try clear hcz735_0 hcz735_1 hcz735_2 hcz735_3 hfz735_0 hfz735_1 hfz735_2 hfz735_3); obtain ⟨hcz755_0, hcz755_1, hcz755_2, hcz755_3, hfz755_0, hfz755_1, hfz755_2, hfz755_3⟩ := ch4_ BK607)))
            go_ret
            exact ⟨es_, (bw_ HB).out⟩
           obtain rfl := si_ H
           have hnb756 := NB482_475.out
           have hnc756 := NB475_482.out
           obtain ⟨hcz770_0, hcz770_1, hcz770_2, hcz770_3, hfz770_0, hfz770_1, hfz770_2, hfz770_3⟩ := ch4_ BK482
           obtain ⟨hcz784_0, hcz784_1, hcz784_2, hcz784_3, hfz784_0, hfz784_1, hfz784_2, hfz784_3⟩ := ch4_ BK475
           go_wp2_with (first | ((with_reducible refine gk_ ?_); first | ((with_reducible refine gc_ 6 ?_); refine ge_ 270 Try.func6 #[.agg #[.int .i64 t477, .int .i64 t478, .int .i64 t479, .int .i64 t480], .agg #[.int .i64 t467, .int .i64 t468, .int .i64 t469, .int .i64 t470]] ?_; (with_reducible refine (impl_MultiplyMatrices.calls kj336 t477 t478 t479 t480 t467 t468 t469 t470 t590 t591 t592 t593 t594 _ A547.out).mono ?_); rintro e w785 ⟨rfl, hb⟩; refine ⟨_, rfl, ?_⟩; replace BK475 := bb_ BK475 hb; replace BK476 := bb_ BK476 hb; replace BK482 := bb_ BK482 hb; replace BK488 := bb_ BK488 hb; replace BK495 := bb_ BK495 hb; replace BK501 := bb_ BK501 hb; replace BK507 := bb_ BK507 hb; replace BK512 := bb_ BK512 hb; replace BK518 := bb_ BK518 hb; replace BK524 := bb_ BK524 hb; replace BK530 := bb_ BK530 hb; replace BK536 := bb_ BK536 hb; replace BK542 := bb_ BK542 hb; replace BK551 := bb_ BK551 hb; replace BK552 := bb_ BK552 hb; replace HB := bt_ HB hb; (try clear hb)) | ((with_reducible refine gc_ 6 ?_); refine ge_ 276 Try.func6 #[.agg #[.int .i64 t471, .int .i64 t472, .int .i64 t473, .int .i64 t474], .agg #[.int .i64 t467, .int .i64 t468, .int .i64 t469, .int .i64 t470]] ?_; (with_reducible refine (impl_MultiplyMatrices.calls kj336 t471 t472 t473 t474 t467 t468 t469 t470 t596 t597 t598 t599 t600 _ A548.out).mono ?_); rintro e w817 ⟨rfl, hb⟩; refine ⟨_, rfl, ?_⟩; replace BK475 := fb_ BK475 NB475_595 hb; replace BK476 := fb_ BK476 NB476_595 hb; replace BK482 := fb_ BK482 NB482_595 hb; replace BK488 := fb_ BK488 NB488_595 hb; replace BK495 := fb_ BK495 NB495_595 hb; replace BK501 := fb_ BK501 NB501_595 hb; replace BK507 := fb_ BK507 NB507_595 hb; replace BK512 := fb_ BK512 NB512_595 hb; replace BK518 := fb_ BK518 NB518_595 hb; replace BK524 := fb_ BK524 NB524_595 hb; replace BK530 := fb_ BK530 NB530_595 hb; replace BK536 := fb_ BK536 NB536_595 hb; replace BK542 := fb_ BK542 NB542_595 hb; replace BK551 := fb_ BK551 NB551_595 hb; replace BK552 := fb_ BK552 NB552_595 hb; replace BK595 := Aside0.mk (blk_below (g := gb595) (o := .cells #[.int .i64 t590, .int .i64 t591, .int .i64 t592, .int .i64 t593] 26 (0, 0)) (bp_ BK595).out hb); replace HB := bt_ HB hb; (try clear hb)) | ((with_reducible refine gc_ 6 ?_); refine ge_ 282 Try.func6 #[.agg #[.int .i64 t467, .int .i64 t468, .int .i64 t469, .int .i64 t470], .agg #[.int .i64 t596, .int .i64 t597, .int .i64 t598, .int .i64 t599]] ?_; (with_reducible refine (impl_MultiplyMatrices.calls kj336 t467 t468 t469 t470 t596 t597 t598 t599 t602 t603 t604 t605 t606 _ A549.out).mono ?_); rintro e w837 ⟨rfl, hb⟩; refine ⟨_, rfl, ?_⟩; replace BK475 := fb_ BK475 NB475_601 hb; replace BK476 := fb_ BK476 NB476_601 hb; replace BK482 := fb_ BK482 NB482_601 hb; replace BK488 := fb_ BK488 NB488_601 hb; replace BK495 := fb_ BK495 NB495_601 hb; replace BK501 := fb_ BK501 NB501_601 hb; replace BK507 := fb_ BK507 NB507_601 hb; replace BK512 := fb_ BK512 NB512_601 hb; replace BK518 := fb_ BK518 NB518_601 hb; replace BK524 := fb_ BK524 NB524_601 hb; replace BK530 := fb_ BK530 NB530_601 hb; replace BK536 := fb_ BK536 NB536_601 hb; replace BK542 := fb_ BK542 NB542_601 hb; replace BK551 := fb_ BK551 NB551_601 hb; replace BK552 := fb_ BK552 NB552_601 hb; replace BK595 := fb_ BK595 NB595_601 hb; replace BK601 := Aside0.mk (blk_below (g := gb601) (o := .cells #[.int .i64 t596, .int .i64 t597, .int .i64 t598, .int .i64 t599] 26 (0, 0)) (bp_ BK601).out hb); replace HB := bt_ HB hb; (try clear hb))) | ((with_reducible refine gn_ ?_); first | ((with_reducible refine gd_ 43 ?_); refine by_ 43 #[.int .i64 0, .int .i64 0, .int .i64 0, .int .i64 0] 26 HB ?_; intro gb595 hg w786 BK595 hb GW595 HB_; have NB475_595 := bm_ BK475 hg; have NB595_475 := bn_ BK475 hg; have NB476_595 := bm_ BK476 hg; have NB595_476 := bn_ BK476 hg; have NB482_595 := bm_ BK482 hg; have NB595_482 := bn_ BK482 hg; have NB488_595 := bm_ BK488 hg; have NB595_488 := bn_ BK488 hg; have NB495_595 := bm_ BK495 hg; have NB595_495 := bn_ BK495 hg; have NB501_595 := bm_ BK501 hg; have NB595_501 := bn_ BK501 hg; have NB507_595 := bm_ BK507 hg; have NB595_507 := bn_ BK507 hg; have NB512_595 := bm_ BK512 hg; have NB595_512 := bn_ BK512 hg; have NB518_595 := bm_ BK518 hg; have NB595_518 := bn_ BK518 hg; have NB524_595 := bm_ BK524 hg; have NB595_524 := bn_ BK524 hg; have NB530_595 := bm_ BK530 hg; have NB595_530 := bn_ BK530 hg; have NB536_595 := bm_ BK536 hg; have NB595_536 := bn_ BK536 hg; have NB542_595 := bm_ BK542 hg; have NB595_542 := bn_ BK542 hg; have NB551_595 := bm_ BK551 hg; have NB595_551 := bn_ BK551 hg; have NB552_595 := bm_ BK552 hg; have NB595_552 := bn_ BK552 hg; replace BK475 := bb_ BK475 hb; replace BK476 := bb_ BK476 hb; replace BK482 := bb_ BK482 hb; replace BK488 := bb_ BK488 hb; replace BK495 := bb_ BK495 hb; replace BK501 := bb_ BK501 hb; replace BK507 := bb_ BK507 hb; replace BK512 := bb_ BK512 hb; replace BK518 := bb_ BK518 hb; replace BK524 := bb_ BK524 hb; replace BK530 := bb_ BK530 hb; replace BK536 := bb_ BK536 hb; replace BK542 := bb_ BK542 hb; replace BK551 := bb_ BK551 hb; replace BK552 := bb_ BK552 hb; replace HB := HB_; clear hb hg; have hnb787 := NB595_475.out; have hnc787 := NB475_595.out; have hnb788 := NB595_476.out; have hnc788 := NB476_595.out; obtain ⟨hcz802_0, hcz802_1, hcz802_2, hcz802_3, hfz802_0, hfz802_1, hfz802_2, hfz802_3⟩ := ch4_ BK595; obtain ⟨hcz815_0, hcz815_1, hcz815_2, hcz815_3, hfz815_0, hfz815_1, hfz815_2, hfz815_3⟩ := ch4_ BK476; obtain ⟨hcz816_0, hcz816_1, hcz816_2, hcz816_3, hfz816_0, hfz816_1, hfz816_2, hfz816_3⟩ := ch4_ BK475) | ((with_reducible refine gd_ 45 ?_); refine by_ 45 #[.int .i64 0, .int .i64 0, .int .i64 0, .int .i64 0] 26 HB ?_; intro gb601 hg w818 BK601 hb GW601 HB_; have NB475_601 := bm_ BK475 hg; have NB601_475 := bn_ BK475 hg; have NB476_601 := bm_ BK476 hg; have NB601_476 := bn_ BK476 hg; have NB482_601 := bm_ BK482 hg; have NB601_482 := bn_ BK482 hg; have NB488_601 := bm_ BK488 hg; have NB601_488 := bn_ BK488 hg; have NB495_601 := bm_ BK495 hg; have NB601_495 := bn_ BK495 hg; have NB501_601 := bm_ BK501 hg; have NB601_501 := bn_ BK501 hg; have NB507_601 := bm_ BK507 hg; have NB601_507 := bn_ BK507 hg; have NB512_601 := bm_ BK512 hg; have NB601_512 := bn_ BK512 hg; have NB518_601 := bm_ BK518 hg; have NB601_518 := bn_ BK518 hg; have NB524_601 := bm_ BK524 hg; have NB601_524 := bn_ BK524 hg; have NB530_601 := bm_ BK530 hg; have NB601_530 := bn_ BK530 hg; have NB536_601 := bm_ BK536 hg; have NB601_536 := bn_ BK536 hg; have NB542_601 := bm_ BK542 hg; have NB601_542 := bn_ BK542 hg; have NB551_601 := bm_ BK551 hg; have NB601_551 := bn_ BK551 hg; have NB552_601 := bm_ BK552 hg; have NB601_552 := bn_ BK552 hg; have NB595_601 := bm_ BK595 hg; have NB601_595 := bn_ BK595 hg; replace BK475 := bb_ BK475 hb; replace BK476 := bb_ BK476 hb; replace BK482 := bb_ BK482 hb; replace BK488 := bb_ BK488 hb; replace BK495 := bb_ BK495 hb; replace BK501 := bb_ BK501 hb; replace BK507 := bb_ BK507 hb; replace BK512 := bb_ BK512 hb; replace BK518 := bb_ BK518 hb; replace BK524 := bb_ BK524 hb; replace BK530 := bb_ BK530 hb; replace BK536 := bb_ BK536 hb; replace BK542 := bb_ BK542 hb; replace BK551 := bb_ BK551 hb; replace BK552 := bb_ BK552 hb; replace BK595 := bb_ BK595 hb; replace HB := HB_; clear hb hg; have hnb819 := NB601_475.out; have hnc819 := NB475_601.out; (try clear hcz802_0 hcz802_1 hcz802_2 hcz802_3 hfz802_0 hfz802_1 hfz802_2 hfz802_3); (try clear hcz815_0 hcz815_1 hcz815_2 hcz815_3 hfz815_0 hfz815_1 hfz815_2 hfz815_3); (try clear hcz816_0 hcz816_1 hcz816_2 hcz816_3 hfz816_0 hfz816_1 hfz816_2 hfz816_3); obtain ⟨hcz835_0, hcz835_1, hcz835_2, hcz835_3, hfz835_0, hfz835_1, hfz835_2, hfz835_3⟩ := ch4_ BK601; obtain ⟨hcz836_0, hcz836_1, hcz836_2, hcz836_3, hfz836_0, hfz836_1, hfz836_2, hfz836_3⟩ := ch4_ BK475) | ((with_reducible refine gd_ 47 ?_); refine by_ 47 #[.int .i64 0, .int .i64 0, .int .i64 0, .int .i64 0] 26 HB ?_; intro gb607 hg w838 BK607 hb GW607 HB_; have NB475_607 := bm_ BK475 hg; have NB607_475 := bn_ BK475 hg; have NB476_607 := bm_ BK476 hg; have NB607_476 := bn_ BK476 hg; have NB482_607 := bm_ BK482 hg; have NB607_482 := bn_ BK482 hg; have NB488_607 := bm_ BK488 hg; have NB607_488 := bn_ BK488 hg; have NB495_607 := bm_ BK495 hg; have NB607_495 := bn_ BK495 hg; have NB501_607 := bm_ BK501 hg; have NB607_501 := bn_ BK501 hg; have NB507_607 := bm_ BK507 hg; have NB607_507 := bn_ BK507 hg; have NB512_607 := bm_ BK512 hg; have NB607_512 := bn_ BK512 hg; have NB518_607 := bm_ BK518 hg; have NB607_518 := bn_ BK518 hg; have NB524_607 := bm_ BK524 hg; have NB607_524 := bn_ BK524 hg; have NB530_607 := bm_ BK530 hg; have NB607_530 := bn_ BK530 hg; have NB536_607 := bm_ BK536 hg; have NB607_536 := bn_ BK536 hg; have NB542_607 := bm_ BK542 hg; have NB607_542 := bn_ BK542 hg; have NB551_607 := bm_ BK551 hg; have NB607_551 := bn_ BK551 hg; have NB552_607 := bm_ BK552 hg; have NB607_552 := bn_ BK552 hg; have NB595_607 := bm_ BK595 hg; have NB607_595 := bn_ BK595 hg; have NB601_607 := bm_ BK601 hg; have NB607_601 := bn_ BK601 hg; replace BK475 := bb_ BK475 hb; replace BK476 := bb_ BK476 hb; replace BK482 := bb_ BK482 hb; replace BK488 := bb_ BK488 hb; replace BK495 := bb_ BK495 hb; replace BK501 := bb_ BK501 hb; replace BK507 := bb_ BK507 hb; replace BK512 := bb_ BK512 hb; replace BK518 := bb_ BK518 hb; replace BK524 := bb_ BK524 hb; replace BK530 := bb_ BK530 hb; replace BK536 := bb_ BK536 hb; replace BK542 := bb_ BK542 hb; replace BK551 := bb_ BK551 hb; replace BK552 := bb_ BK552 hb; replace BK595 := bb_ BK595 hb; replace BK601 := bb_ BK601 hb; replace HB := HB_; clear hb hg; (try clear hcz835_0 hcz835_1 hcz835_2 hcz835_3 hfz835_0 hfz835_1 hfz835_2 hfz835_3); (try clear hcz836_0 hcz836_1 hcz836_2 hcz836_3 hfz836_0 hfz836_1 hfz836_2 hfz836_3); obtain ⟨hcz856_0, hcz856_1, hcz856_2, hcz856_3, hfz856_0, hfz856_1, hfz856_2, hfz856_3⟩ := ch4_ BK607)))
           go_ret
           exact ⟨es_, (bw_ HB).out⟩
          obtain rfl := si_ H
          have hnb857 := NB482_475.out
          have hnc857 := NB475_482.out
          obtain ⟨hcz871_0, hcz871_1, hcz871_2, hcz871_3, hfz871_0, hfz871_1, hfz871_2, hfz871_3⟩ := ch4_ BK482
          obtain ⟨hcz885_0, hcz885_1, hcz885_2, hcz885_3, hfz885_0, hfz885_1, hfz885_2, hfz885_3⟩ := ch4_ BK475
          go_wp2_with (first | ((with_reducible refine gk_ ?_); first | ((with_reducible refine gc_ 6 ?_); refine ge_ 270 Try.func6 #[.agg #[.int .i64 t477, .int .i64 t478, .int .i64 t479, .int .i64 t480], .agg #[.int .i64 t467, .int .i64 t468, .int .i64 t469, .int .i64 t470]] ?_; (with_reducible refine (impl_MultiplyMatrices.calls kj336 t477 t478 t479 t480 t467 t468 t469 t470 t590 t591 t592 t593 t594 _ A547.out).mono ?_); rintro e w886 ⟨rfl, hb⟩; refine ⟨_, rfl, ?_⟩; replace BK475 := bb_ BK475 hb; replace BK476 := bb_ BK476 hb; replace BK482 := bb_ BK482 hb; replace BK488 := bb_ BK488 hb; replace BK495 := bb_ BK495 hb; replace BK501 := bb_ BK501 hb; replace BK507 := bb_ BK507 hb; replace BK512 := bb_ BK512 hb; replace BK518 := bb_ BK518 hb; replace BK524 := bb_ BK524 hb; replace BK530 := bb_ BK530 hb; replace BK536 := bb_ BK536 hb; replace BK542 := bb_ BK542 hb; replace BK551 := bb_ BK551 hb; replace BK552 := bb_ BK552 hb; replace HB := bt_ HB hb; (try clear hb)) | ((with_reducible refine gc_ 6 ?_); refine ge_ 276 Try.func6 #[.agg #[.int .i64 t471, .int .i64 t472, .int .i64 t473, .int .i64 t474], .agg #[.int .i64 t467, .int .i64 t468, .int .i64 t469, .int .i64 t470]] ?_; (with_reducible refine (impl_MultiplyMatrices.calls kj336 t471 t472 t473 t474 t467 t468 t469 t470 t596 t597 t598 t599 t600 _ A548.out).mono ?_); rintro e w918 ⟨rfl, hb⟩; refine ⟨_, rfl, ?_⟩; replace BK475 := fb_ BK475 NB475_595 hb; replace BK476 := fb_ BK476 NB476_595 hb; replace BK482 := fb_ BK482 NB482_595 hb; replace BK488 := fb_ BK488 NB488_595 hb; replace BK495 := fb_ BK495 NB495_595 hb; replace BK501 := fb_ BK501 NB501_595 hb; replace BK507 := fb_ BK507 NB507_595 hb; replace BK512 := fb_ BK512 NB512_595 hb; replace BK518 := fb_ BK518 NB518_595 hb; replace BK524 := fb_ BK524 NB524_595 hb; replace BK530 := fb_ BK530 NB530_595 hb; replace BK536 := fb_ BK536 NB536_595 hb; replace BK542 := fb_ BK542 NB542_595 hb; replace BK551 := fb_ BK551 NB551_595 hb; replace BK552 := fb_ BK552 NB552_595 hb; replace BK595 := Aside0.mk (blk_below (g := gb595) (o := .cells #[.int .i64 t590, .int .i64 t591, .int .i64 t592, .int .i64 t593] 26 (0, 0)) (bp_ BK595).out hb); replace HB := bt_ HB hb; (try clear hb)) | ((with_reducible refine gc_ 6 ?_); refine ge_ 282 Try.func6 #[.agg #[.int .i64 t467, .int .i64 t468, .int .i64 t469, .int .i64 t470], .agg #[.int .i64 t596, .int .i64 t597, .int .i64 t598, .int .i64 t599]] ?_; (with_reducible refine (impl_MultiplyMatrices.calls kj336 t467 t468 t469 t470 t596 t597 t598 t599 t602 t603 t604 t605 t606 _ A549.out).mono ?_); rintro e w938 ⟨rfl, hb⟩; refine ⟨_, rfl, ?_⟩; replace BK475 := fb_ BK475 NB475_601 hb; replace BK476 := fb_ BK476 NB476_601 hb; replace BK482 := fb_ BK482 NB482_601 hb; replace BK488 := fb_ BK488 NB488_601 hb; replace BK495 := fb_ BK495 NB495_601 hb; replace BK501 := fb_ BK501 NB501_601 hb; replace BK507 := fb_ BK507 NB507_601 hb; replace BK512 := fb_ BK512 NB512_601 hb; replace BK518 := fb_ BK518 NB518_601 hb; replace BK524 := fb_ BK524 NB524_601 hb; replace BK530 := fb_ BK530 NB530_601 hb; replace BK536 := fb_ BK536 NB536_601 hb; replace BK542 := fb_ BK542 NB542_601 hb; replace BK551 := fb_ BK551 NB551_601 hb; replace BK552 := fb_ BK552 NB552_601 hb; replace BK595 := fb_ BK595 NB595_601 hb; replace BK601 := Aside0.mk (blk_below (g := gb601) (o := .cells #[.int .i64 t596, .int .i64 t597, .int .i64 t598, .int .i64 t599] 26 (0, 0)) (bp_ BK601).out hb); replace HB := bt_ HB hb; (try clear hb))) | ((with_reducible refine gn_ ?_); first | ((with_reducible refine gd_ 43 ?_); refine by_ 43 #[.int .i64 0, .int .i64 0, .int .i64 0, .int .i64 0] 26 HB ?_; intro gb595 hg w887 BK595 hb GW595 HB_; have NB475_595 := bm_ BK475 hg; have NB595_475 := bn_ BK475 hg; have NB476_595 := bm_ BK476 hg; have NB595_476 := bn_ BK476 hg; have NB482_595 := bm_ BK482 hg; have NB595_482 := bn_ BK482 hg; have NB488_595 := bm_ BK488 hg; have NB595_488 := bn_ BK488 hg; have NB495_595 := bm_ BK495 hg; have NB595_495 := bn_ BK495 hg; have NB501_595 := bm_ BK501 hg; have NB595_501 := bn_ BK501 hg; have NB507_595 := bm_ BK507 hg; have NB595_507 := bn_ BK507 hg; have NB512_595 := bm_ BK512 hg; have NB595_512 := bn_ BK512 hg; have NB518_595 := bm_ BK518 hg; have NB595_518 := bn_ BK518 hg; have NB524_595 := bm_ BK524 hg; have NB595_524 := bn_ BK524 hg; have NB530_595 := bm_ BK530 hg; have NB595_530 := bn_ BK530 hg; have NB536_595 := bm_ BK536 hg; have NB595_536 := bn_ BK536 hg; have NB542_595 := bm_ BK542 hg; have NB595_542 := bn_ BK542 hg; have NB551_595 := bm_ BK551 hg; have NB595_551 := bn_ BK551 hg; have NB552_595 := bm_ BK552 hg; have NB595_552 := bn_ BK552 hg; replace BK475 := bb_ BK475 hb; replace BK476 := bb_ BK476 hb; replace BK482 := bb_ BK482 hb; replace BK488 := bb_ BK488 hb; replace BK495 := bb_ BK495 hb; replace BK501 := bb_ BK501 hb; replace BK507 := bb_ BK507 hb; replace BK512 := bb_ BK512 hb; replace BK518 := bb_ BK518 hb; replace BK524 := bb_ BK524 hb; replace BK530 := bb_ BK530 hb; replace BK536 := bb_ BK536 hb; replace BK542 := bb_ BK542 hb; replace BK551 := bb_ BK551 hb; replace BK552 := bb_ BK552 hb; replace HB := HB_; clear hb hg; have hnb888 := NB595_475.out; have hnc888 := NB475_595.out; have hnb889 := NB595_476.out; have hnc889 := NB476_595.out; obtain ⟨hcz903_0, hcz903_1, hcz903_2, hcz903_3, hfz903_0, hfz903_1, hfz903_2, hfz903_3⟩ := ch4_ BK595; obtain ⟨hcz916_0, hcz916_1, hcz916_2, hcz916_3, hfz916_0, hfz916_1, hfz916_2, hfz916_3⟩ := ch4_ BK476; obtain ⟨hcz917_0, hcz917_1, hcz917_2, hcz917_3, hfz917_0, hfz917_1, hfz917_2, hfz917_3⟩ := ch4_ BK475) | ((with_reducible refine gd_ 45 ?_); refine by_ 45 #[.int .i64 0, .int .i64 0, .int .i64 0, .int .i64 0] 26 HB ?_; intro gb601 hg w919 BK601 hb GW601 HB_; have NB475_601 := bm_ BK475 hg; have NB601_475 := bn_ BK475 hg; have NB476_601 := bm_ BK476 hg; have NB601_476 := bn_ BK476 hg; have NB482_601 := bm_ BK482 hg; have NB601_482 := bn_ BK482 hg; have NB488_601 := bm_ BK488 hg; have NB601_488 := bn_ BK488 hg; have NB495_601 := bm_ BK495 hg; have NB601_495 := bn_ BK495 hg; have NB501_601 := bm_ BK501 hg; have NB601_501 := bn_ BK501 hg; have NB507_601 := bm_ BK507 hg; have NB601_507 := bn_ BK507 hg; have NB512_601 := bm_ BK512 hg; have NB601_512 := bn_ BK512 hg; have NB518_601 := bm_ BK518 hg; have NB601_518 := bn_ BK518 hg; have NB524_601 := bm_ BK524 hg; have NB601_524 := bn_ BK524 hg; have NB530_601 := bm_ BK530 hg; have NB601_530 := bn_ BK530 hg; have NB536_601 := bm_ BK536 hg; have NB601_536 := bn_ BK536 hg; have NB542_601 := bm_ BK542 hg; have NB601_542 := bn_ BK542 hg; have NB551_601 := bm_ BK551 hg; have NB601_551 := bn_ BK551 hg; have NB552_601 := bm_ BK552 hg; have NB601_552 := bn_ BK552 hg; have NB595_601 := bm_ BK595 hg; have NB601_595 := bn_ BK595 hg; replace BK475 := bb_ BK475 hb; replace BK476 := bb_ BK476 hb; replace BK482 := bb_ BK482 hb; replace BK488 := bb_ BK488 hb; replace BK495 := bb_ BK495 hb; replace BK501 := bb_ BK501 hb; replace BK507 := bb_ BK507 hb; replace BK512 := bb_ BK512 hb; replace BK518 := bb_ BK518 hb; replace BK524 := bb_ BK524 hb; replace BK530 := bb_ BK530 hb; replace BK536 := bb_ BK536 hb; replace BK542 := bb_ BK542 hb; replace BK551 := bb_ BK551 hb; replace BK552 := bb_ BK552 hb; replace BK595 := bb_ BK595 hb; replace HB := HB_; clear hb hg; have hnb920 := NB601_475.out; have hnc920 := NB475_601.out; (try clear hcz903_0 hcz903_1 hcz903_2 hcz903_3 hfz903_0 hfz903_1 hfz903_2 hfz903_3); (try clear hcz916_0 hcz916_1 hcz916_2 hcz916_3 hfz916_0 hfz916_1 hfz916_2 hfz916_3); (try clear hcz917_0 hcz917_1 hcz917_2 hcz917_3 hfz917_0 hfz917_1 hfz917_2 hfz917_3); obtain ⟨hcz936_0, hcz936_1, hcz936_2, hcz936_3, hfz936_0, hfz936_1, hfz936_2, hfz936_3⟩ := ch4_ BK601; obtain ⟨hcz937_0, hcz937_1, hcz937_2, hcz937_3, hfz937_0, hfz937_1, hfz937_2, hfz937_3⟩ := ch4_ BK475) | ((with_reducible refine gd_ 47 ?_); refine by_ 47 #[.int .i64 0, .int .i64 0, .int .i64 0, .int .i64 0] 26 HB ?_; intro gb607 hg w939 BK607 hb GW607 HB_; have NB475_607 := bm_ BK475 hg; have NB607_475 := bn_ BK475 hg; have NB476_607 := bm_ BK476 hg; have NB607_476 := bn_ BK476 hg; have NB482_607 := bm_ BK482 hg; have NB607_482 := bn_ BK482 hg; have NB488_607 := bm_ BK488 hg; have NB607_488 := bn_ BK488 hg; have NB495_607 := bm_ BK495 hg; have NB607_495 := bn_ BK495 hg; have NB501_607 := bm_ BK501 hg; have NB607_501 := bn_ BK501 hg; have NB507_607 := bm_ BK507 hg; have NB607_507 := bn_ BK507 hg; have NB512_607 := bm_ BK512 hg; have NB607_512 := bn_ BK512 hg; have NB518_607 := bm_ BK518 hg; have NB607_518 := bn_ BK518 hg; have NB524_607 := bm_ BK524 hg; have NB607_524 := bn_ BK524 hg; have NB530_607 := bm_ BK530 hg; have NB607_530 := bn_ BK530 hg; have NB536_607 := bm_ BK536 hg; have NB607_536 := bn_ BK536 hg; have NB542_607 := bm_ BK542 hg; have NB607_542 := bn_ BK542 hg; have NB551_607 := bm_ BK551 hg; have NB607_551 := bn_ BK551 hg; have NB552_607 := bm_ BK552 hg; have NB607_552 := bn_ BK552 hg; have NB595_607 := bm_ BK595 hg; have NB607_595 := bn_ BK595 hg; have NB601_607 := bm_ BK601 hg; have NB607_601 := bn_ BK601 hg; replace BK475 := bb_ BK475 hb; replace BK476 := bb_ BK476 hb; replace BK482 := bb_ BK482 hb; replace BK488 := bb_ BK488 hb; replace BK495 := bb_ BK495 hb; replace BK501 := bb_ BK501 hb; replace BK507 := bb_ BK507 hb; replace BK512 := bb_ BK512 hb; replace BK518 := bb_ BK518 hb; replace BK524 := bb_ BK524 hb; replace BK530 := bb_ BK530 hb; replace BK536 := bb_ BK536 hb; replace BK542 := bb_ BK542 hb; replace BK551 := bb_ BK551 hb; replace BK552 := bb_ BK552 hb; replace BK595 := bb_ BK595 hb; replace BK601 := bb_ BK601 hb; replace HB := HB_; clear hb hg; (try clear hcz936_0 hcz936_1 hcz936_2 hcz936_3 hfz936_0 hfz936_1 hfz936_2 hfz936_3); (try clear hcz937_0 hcz937_1 hcz937_2 hcz937_3 hfz937_0 hfz937_1 hfz937_2 hfz937_3); obtain ⟨hcz957_0, hcz957_1, hcz957_2, hcz957_3, hfz957_0, hfz957_1, hfz957_2, hfz957_3⟩ := ch4_ BK607)))
          go_ret
          exact ⟨es_, (bw_ HB).out⟩
         obtain rfl := si_ H
         obtain ⟨hcz972_0, hcz972_1, hcz972_2, hcz972_3, hfz972_0, hfz972_1, hfz972_2, hfz972_3⟩ := ch4_ BK482
         go_wp2
         go_ret
         exact ⟨es_, (bw_ HB).out⟩

/-- THE ONE PURE STATEMENT of laws_FnMatrices: yours. -/
def laws_FnMatrices.Pure : Prop := ∀ (l0 : List Int), l0.length ≤ maxLen → l0.length * 1 ≤ 140737488351232 → (∀ x ∈ l0, (Lit.int .u8 x).wf = true) → ∃ k, laws_FnMatrices.f k l0 = some true
theorem laws_FnMatrices.walk (P : laws_FnMatrices.Pure) (a0 : Option Addr) (len0 cap0 : Nat) (z0 : List Int) (w : World) (w0 : (a0 = none ∧ len0 = 0 ∧ cap0 = 0 ∧ z0 = []) ∨ ∃ x, a0 = some x ∧ len0 ≤ cap0 ∧ cap0 ≤ maxLen ∧ z0.length = cap0 ∧ (∀ i, i < z0.length → w.cell? (x.add i) = some (.int .u8 (z0.getD i 0))) ∧ ∀ n ∈ z0, (Lit.int .u8 n).wf = true) (y0 : len0 * 1 ≤ 140737488351232) :
  Calls Try.prog 3 #[.slice a0 len0 cap0] w fun e w' => e = .returned (.bool true) ∧ Below w.heap.size w w' := by
 obtain ⟨l0, rfl, hr0, hm0, hw0, hc0⟩ := ReadsInt.ofRowC w0
 obtain ⟨k, h⟩ := P l0 hm0 y0 hw0
 refine (laws_FnMatrices.calls k _ _ l0 true w (Kd.C_of_reads (d := (0 : Int)) (h1 := fun _ => rfl) hr0) hc0 h).mono ?_
 rintro e w' ⟨rfl, hd⟩
 exact ⟨rfl, hd⟩
end Go.Proofs.Yteniblbnmcfmjaa.QM
