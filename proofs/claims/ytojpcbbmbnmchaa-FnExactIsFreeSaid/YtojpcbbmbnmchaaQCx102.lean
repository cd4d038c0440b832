-- Written by a program of this session out of Lean's own print of the loaded program; Lean checks it.
import Derived.Test.YtojpcbbmbnmchaaQCx4
import Derived.Test.YtojpcbbmbnmchaaQCx100
namespace Go.Proofs.Ytojpcbbmbnmchaa.QC
open Go.RowKit Go.Proofs.YtojpcbbmbnmchaaW.PrintWords Go.Proofs.YtojpcbbmbnmchaaW.PrintLast Go.Proofs.YtojpcbbmbnmchaaW.PrintMore
attribute [local go_sem] isSome_setCell max2_int min2_int max_two min_two max_three min_three max_four min_four   -- for this text's walks alone
set_option linter.unusedVariables false
set_option linter.unusedSimpArgs false

/-! ### laws_eqSide: function 13 -/
def laws_eqSide.f (a0_0 : Int) (a0_1 : Int) (a0_2 : Int) (a0_3 : Bool) (a1_0 : Int) (a1_1 : Int) (a1_2 : Int) (a1_3 : Bool) : Option (Bool) := (laws_eqBall.f a0_0 a0_1 a0_2 a1_0 a1_1 a1_2).bind fun t747 => (if t747 = true then (if (a0_3 != a1_3) = true then (some false) else (some true)) else (some false))
set_option maxHeartbeats 8000000 in
set_option maxRecDepth 100000 in
theorem laws_eqSide.calls (a0_0 : Int) (a0_1 : Int) (a0_2 : Int) (a0_3 : Bool) (a1_0 : Int) (a1_1 : Int) (a1_2 : Int) (a1_3 : Bool) (r : Bool) (w : World) (h : laws_eqSide.f a0_0 a0_1 a0_2 a0_3 a1_0 a1_1 a1_2 a1_3 = some r) :
  Calls Try.prog 13 #[.agg #[.int .i64 a0_0, .int .i64 a0_1, .int .i64 a0_2, .bool a0_3], .agg #[.int .i64 a1_0, .int .i64 a1_1, .int .i64 a1_2, .bool a1_3]] w fun e w' => e = .returned (.bool r) ∧ Below w.heap.size w w' := by
 have hu30 := Try.underlying30
 have hu28 := Try.underlying28
 have HB := Aside0.mk (Below.refl w.heap.size w)
 have H : ((laws_eqBall.f a0_0 a0_1 a0_2 a1_0 a1_1 a1_2).bind fun t747 => (if t747 = true then (if (a0_3 != a1_3) = true then (some false) else (some true)) else (some false))) = some r := h
 clear h
 replace H := Option.bind_eq_some_iff.mp H
 obtain ⟨t747, A30, H⟩ := H
 have A3 := Aside0.mk A30
 clear A30
 by_cases c4 : t747 = true
 ·subst c4
  have H1 : (if (a0_3 != a1_3) = true then (some false) else (some true)) = some r := by rw [if_pos rfl] at H; exact H
  clear H
  have H := H1
  clear H1
  by_cases c5 : (a0_3 != a1_3) = true
  ·rw [if_pos c5] at H
   have c5b0 : (a0_3 != a1_3) = true := c5
   (try (have c5b1 : decide (a0_3 = a1_3) = false := by simpa using c5))
   (try (have c5b2 : (a0_3 == a1_3) = false := by simpa using c5))
   (try (have c5b3 : ¬ (a0_3 = a1_3) := by simpa using c5))
   clear c5
   obtain rfl := Option.some.inj H
   go_enter Try.func13, Try.ntmps13
   go_wp2_with (first | ((with_reducible refine gate_dst (N := 2) rfl ?_); refine bx_ 2 #[.int .i64 a0_0, .int .i64 a0_1, .int .i64 a0_2, .bool a0_3] 30 ?_; intro gb745 hg w6 hbox hb; have BK745 := Aside0.mk (hbox); have GW745 := bs_ HB hg; have GE745 := bs_ HB hg; replace HB := bt_ HB hb; clear hb hbox hg) | ((with_reducible refine gate_dst (N := 3) rfl ?_); refine bx_ 3 #[.int .i64 a1_0, .int .i64 a1_1, .int .i64 a1_2, .bool a1_3] 30 ?_; intro gb746 hg w7 hbox hb; have BK746 := Aside0.mk (hbox); have GW746 := bs_ HB hg; have GE746 := bs_ HB hg; have NB745_746 := bm_ BK745 hg; have NB746_745 := bn_ BK745 hg; replace BK745 := bb_ BK745 hb; replace HB := bt_ HB hb; clear hb hbox hg; have hnb8 := NB745_746.out; have hnc8 := NB746_745.out; have hcz9_0 : w7.cell? ⟨gb745, 0, none⟩ = some (.int .i64 a0_0) := (blk_cell BK745.out 0).trans rfl; have hcz9_1 : w7.cell? ⟨gb745, 1, none⟩ = some (.int .i64 a0_1) := (blk_cell BK745.out 1).trans rfl; have hcz9_2 : w7.cell? ⟨gb745, 2, none⟩ = some (.int .i64 a0_2) := (blk_cell BK745.out 2).trans rfl; have hcz9_3 : w7.cell? ⟨gb745, 3, none⟩ = some (.bool a0_3) := (blk_cell BK745.out 3).trans rfl; have hfz9_0 := blk_frozen BK745.out 0; have hfz9_1 := blk_frozen BK745.out 1; have hfz9_2 := blk_frozen BK745.out 2; have hfz9_3 := blk_frozen BK745.out 3; have hcz10_0 : w7.cell? ⟨gb746, 0, none⟩ = some (.int .i64 a1_0) := (blk_cell BK746.out 0).trans rfl; have hcz10_1 : w7.cell? ⟨gb746, 1, none⟩ = some (.int .i64 a1_1) := (blk_cell BK746.out 1).trans rfl; have hcz10_2 : w7.cell? ⟨gb746, 2, none⟩ = some (.int .i64 a1_2) := (blk_cell BK746.out 2).trans rfl; have hcz10_3 : w7.cell? ⟨gb746, 3, none⟩ = some (.bool a1_3) := (blk_cell BK746.out 3).trans rfl; have hfz10_0 := blk_frozen BK746.out 0; have hfz10_1 := blk_frozen BK746.out 1; have hfz10_2 := blk_frozen BK746.out 2; have hfz10_3 := blk_frozen BK746.out 3) | ((with_reducible refine gate_callee (f := 41) rfl ?_); refine goesL_ (some 9) rfl rfl Try.func41 (by kernel_rfl) rfl #[.agg #[.int .i64 a0_0, .int .i64 a0_1, .int .i64 a0_2], .agg #[.int .i64 a1_0, .int .i64 a1_1, .int .i64 a1_2]] rfl (by (try simp only [List.map_toArray, List.map_cons, List.map_nil]); first | done | rfl | (simp only [List.length_drop, List.length_take]; rfl)) ?_; (with_reducible refine (laws_eqBall.calls a0_0 a0_1 a0_2 a1_0 a1_1 a1_2 true _ A3.out).mono ?_); rintro e w11 ⟨rfl, hb⟩; refine ⟨_, rfl, ?_⟩; replace BK745 := bb_ BK745 hb; replace BK746 := bb_ BK746 hb; replace HB := bt_ HB hb; (try clear hb); (try clear hb2); (try clear hk); (try clear hi); have hcz12_0 : w11.cell? ⟨gb745, 0, none⟩ = some (.int .i64 a0_0) := (blk_cell BK745.out 0).trans rfl; have hcz12_1 : w11.cell? ⟨gb745, 1, none⟩ = some (.int .i64 a0_1) := (blk_cell BK745.out 1).trans rfl; have hcz12_2 : w11.cell? ⟨gb745, 2, none⟩ = some (.int .i64 a0_2) := (blk_cell BK745.out 2).trans rfl; have hcz12_3 : w11.cell? ⟨gb745, 3, none⟩ = some (.bool a0_3) := (blk_cell BK745.out 3).trans rfl; have hfz12_0 := blk_frozen BK745.out 0; have hfz12_1 := blk_frozen BK745.out 1; have hfz12_2 := blk_frozen BK745.out 2; have hfz12_3 := blk_frozen BK745.out 3; have hcz13_0 : w11.cell? ⟨gb746, 0, none⟩ = some (.int .i64 a1_0) := (blk_cell BK746.out 0).trans rfl; have hcz13_1 : w11.cell? ⟨gb746, 1, none⟩ = some (.int .i64 a1_1) := (blk_cell BK746.out 1).trans rfl; have hcz13_2 : w11.cell? ⟨gb746, 2, none⟩ = some (.int .i64 a1_2) := (blk_cell BK746.out 2).trans rfl; have hcz13_3 : w11.cell? ⟨gb746, 3, none⟩ = some (.bool a1_3) := (blk_cell BK746.out 3).trans rfl; have hfz13_0 := blk_frozen BK746.out 0; have hfz13_1 := blk_frozen BK746.out 1; have hfz13_2 := blk_frozen BK746.out 2; have hfz13_3 := blk_frozen BK746.out 3))
   go_ret
   exact ⟨by first | rfl | (simp [errW_none, errW_some] <;> rfl) | (simp [*, errW_none, errW_some] <;> rfl), by repeat (first | (with_reducible first | exact HB.out | apply below_alloc | apply pw_below_drewN | apply below_drew1 | refine below_set ?_ GE745.out | refine below_set ?_ GE746.out) | exact HB.out)⟩
  ·rw [if_neg c5] at H
   have c5b0 : (a0_3 != a1_3) = false := by simpa using c5
   (try (have c5b1 : decide (a0_3 = a1_3) = true := by simpa using c5))
   (try (have c5b2 : (a0_3 == a1_3) = true := by simpa using c5))
   clear c5
   obtain rfl := Option.some.inj H
   go_enter Try.func13, Try.ntmps13
   go_wp2_with (first | ((with_reducible refine gate_dst (N := 2) rfl ?_); refine bx_ 2 #[.int .i64 a0_0, .int .i64 a0_1, .int .i64 a0_2, .bool a0_3] 30 ?_; intro gb745 hg w14 hbox hb; have BK745 := Aside0.mk (hbox); have GW745 := bs_ HB hg; have GE745 := bs_ HB hg; replace HB := bt_ HB hb; clear hb hbox hg) | ((with_reducible refine gate_dst (N := 3) rfl ?_); refine bx_ 3 #[.int .i64 a1_0, .int .i64 a1_1, .int .i64 a1_2, .bool a1_3] 30 ?_; intro gb746 hg w15 hbox hb; have BK746 := Aside0.mk (hbox); have GW746 := bs_ HB hg; have GE746 := bs_ HB hg; have NB745_746 := bm_ BK745 hg; have NB746_745 := bn_ BK745 hg; replace BK745 := bb_ BK745 hb; replace HB := bt_ HB hb; clear hb hbox hg; have hnb16 := NB745_746.out; have hnc16 := NB746_745.out; have hcz17_0 : w15.cell? ⟨gb745, 0, none⟩ = some (.int .i64 a0_0) := (blk_cell BK745.out 0).trans rfl; have hcz17_1 : w15.cell? ⟨gb745, 1, none⟩ = some (.int .i64 a0_1) := (blk_cell BK745.out 1).trans rfl; have hcz17_2 : w15.cell? ⟨gb745, 2, none⟩ = some (.int .i64 a0_2) := (blk_cell BK745.out 2).trans rfl; have hcz17_3 : w15.cell? ⟨gb745, 3, none⟩ = some (.bool a0_3) := (blk_cell BK745.out 3).trans rfl; have hfz17_0 := blk_frozen BK745.out 0; have hfz17_1 := blk_frozen BK745.out 1; have hfz17_2 := blk_frozen BK745.out 2; have hfz17_3 := blk_frozen BK745.out 3; have hcz18_0 : w15.cell? ⟨gb746, 0, none⟩ = some (.int .i64 a1_0) := (blk_cell BK746.out 0).trans rfl; have hcz18_1 : w15.cell? ⟨gb746, 1, none⟩ = some (.int .i64 a1_1) := (blk_cell BK746.out 1).trans rfl; have hcz18_2 : w15.cell? ⟨gb746, 2, none⟩ = some (.int .i64 a1_2) := (blk_cell BK746.out 2).trans rfl; have hcz18_3 : w15.cell? ⟨gb746, 3, none⟩ = some (.bool a1_3) := (blk_cell BK746.out 3).trans rfl; have hfz18_0 := blk_frozen BK746.out 0; have hfz18_1 := blk_frozen BK746.out 1; have hfz18_2 := blk_frozen BK746.out 2; have hfz18_3 := blk_frozen BK746.out 3) | ((with_reducible refine gate_callee (f := 41) rfl ?_); refine goesL_ (some 9) rfl rfl Try.func41 (by kernel_rfl) rfl #[.agg #[.int .i64 a0_0, .int .i64 a0_1, .int .i64 a0_2], .agg #[.int .i64 a1_0, .int .i64 a1_1, .int .i64 a1_2]] rfl (by (try simp only [List.map_toArray, List.map_cons, List.map_nil]); first | done | rfl | (simp only [List.length_drop, List.length_take]; rfl)) ?_; (with_reducible refine (laws_eqBall.calls a0_0 a0_1 a0_2 a1_0 a1_1 a1_2 true _ A3.out).mono ?_); rintro e w19 ⟨rfl, hb⟩; refine ⟨_, rfl, ?_⟩; replace BK745 := bb_ BK745 hb; replace BK746 := bb_ BK746 hb; replace HB := bt_ HB hb; (try clear hb); (try clear hb2); (try clear hk); (try clear hi); have hcz20_0 : w19.cell? ⟨gb745, 0, none⟩ = some (.int .i64 a0_0) := (blk_cell BK745.out 0).trans rfl; have hcz20_1 : w19.cell? ⟨gb745, 1, none⟩ = some (.int .i64 a0_1) := (blk_cell BK745.out 1).trans rfl; have hcz20_2 : w19.cell? ⟨gb745, 2, none⟩ = some (.int .i64 a0_2) := (blk_cell BK745.out 2).trans rfl; have hcz20_3 : w19.cell? ⟨gb745, 3, none⟩ = some (.bool a0_3) := (blk_cell BK745.out 3).trans rfl; have hfz20_0 := blk_frozen BK745.out 0; have hfz20_1 := blk_frozen BK745.out 1; have hfz20_2 := blk_frozen BK745.out 2; have hfz20_3 := blk_frozen BK745.out 3; have hcz21_0 : w19.cell? ⟨gb746, 0, none⟩ = some (.int .i64 a1_0) := (blk_cell BK746.out 0).trans rfl; have hcz21_1 : w19.cell? ⟨gb746, 1, none⟩ = some (.int .i64 a1_1) := (blk_cell BK746.out 1).trans rfl; have hcz21_2 : w19.cell? ⟨gb746, 2, none⟩ = some (.int .i64 a1_2) := (blk_cell BK746.out 2).trans rfl; have hcz21_3 : w19.cell? ⟨gb746, 3, none⟩ = some (.bool a1_3) := (blk_cell BK746.out 3).trans rfl; have hfz21_0 := blk_frozen BK746.out 0; have hfz21_1 := blk_frozen BK746.out 1; have hfz21_2 := blk_frozen BK746.out 2; have hfz21_3 := blk_frozen BK746.out 3))
   go_ret
   exact ⟨by first | rfl | (simp [errW_none, errW_some] <;> rfl) | (simp [*, errW_none, errW_some] <;> rfl), by repeat (first | (with_reducible first | exact HB.out | apply below_alloc | apply pw_below_drewN | apply below_drew1 | refine below_set ?_ GE745.out | refine below_set ?_ GE746.out) | exact HB.out)⟩
 ·replace c4 := Bool.eq_false_iff.mpr c4
  subst c4
  have H1 : (some false) = some r := by rw [if_neg (show ¬ (false = true) by decide)] at H; exact H
  clear H
  have H := H1
  clear H1
  obtain rfl := Option.some.inj H
  go_enter Try.func13, Try.ntmps13
  go_wp2_with (first | ((with_reducible refine gate_dst (N := 2) rfl ?_); refine bx_ 2 #[.int .i64 a0_0, .int .i64 a0_1, .int .i64 a0_2, .bool a0_3] 30 ?_; intro gb745 hg w22 hbox hb; have BK745 := Aside0.mk (hbox); have GW745 := bs_ HB hg; have GE745 := bs_ HB hg; replace HB := bt_ HB hb; clear hb hbox hg) | ((with_reducible refine gate_dst (N := 3) rfl ?_); refine bx_ 3 #[.int .i64 a1_0, .int .i64 a1_1, .int .i64 a1_2, .bool a1_3] 30 ?_; intro gb746 hg w23 hbox hb; have BK746 := Aside0.mk (hbox); have GW746 := bs_ HB hg; have GE746 := bs_ HB hg; have NB745_746 := bm_ BK745 hg; have NB746_745 := bn_ BK745 hg; replace BK745 := bb_ BK745 hb; replace HB := bt_ HB hb; clear hb hbox hg; have hnb24 := NB745_746.out; have hnc24 := NB746_745.out; have hcz25_0 : w23.cell? ⟨gb745, 0, none⟩ = some (.int .i64 a0_0) := (blk_cell BK745.out 0).trans rfl; have hcz25_1 : w23.cell? ⟨gb745, 1, none⟩ = some (.int .i64 a0_1) := (blk_cell BK745.out 1).trans rfl; have hcz25_2 : w23.cell? ⟨gb745, 2, none⟩ = some (.int .i64 a0_2) := (blk_cell BK745.out 2).trans rfl; have hcz25_3 : w23.cell? ⟨gb745, 3, none⟩ = some (.bool a0_3) := (blk_cell BK745.out 3).trans rfl; have hfz25_0 := blk_frozen BK745.out 0; have hfz25_1 := blk_frozen BK745.out 1; have hfz25_2 := blk_frozen BK745.out 2; have hfz25_3 := blk_frozen BK745.out 3; have hcz26_0 : w23.cell? ⟨gb746, 0, none⟩ = some (.int .i64 a1_0) := (blk_cell BK746.out 0).trans rfl; have hcz26_1 : w23.cell? ⟨gb746, 1, none⟩ = some (.int .i64 a1_1) := (blk_cell BK746.out 1).trans rfl; have hcz26_2 : w23.cell? ⟨gb746, 2, none⟩ = some (.int .i64 a1_2) := (blk_cell BK746.out 2).trans rfl; have hcz26_3 : w23.cell? ⟨gb746, 3, none⟩ = some (.bool a1_3) := (blk_cell BK746.out 3).trans rfl; have hfz26_0 := blk_frozen BK746.out 0; have hfz26_1 := blk_frozen BK746.out 1; have hfz26_2 := blk_frozen BK746.out 2; have hfz26_3 := blk_frozen BK746.out 3) | ((with_reducible refine gate_callee (f := 41) rfl ?_); refine goesL_ (some 9) rfl rfl Try.func41 (by kernel_rfl) rfl #[.agg #[.int .i64 a0_0, .int .i64 a0_1, .int .i64 a0_2], .agg #[.int .i64 a1_0, .int .i64 a1_1, .int .i64 a1_2]] rfl (by (try simp only [List.map_toArray, List.map_cons, List.map_nil]); first | done | rfl | (simp only [List.length_drop, List.length_take]; rfl)) ?_; (with_reducible refine (laws_eqBall.calls a0_0 a0_1 a0_2 a1_0 a1_1 a1_2 false _ A3.out).mono ?_); rintro e w27 ⟨rfl, hb⟩; refine ⟨_, rfl, ?_⟩; replace BK745 := bb_ BK745 hb; replace BK746 := bb_ BK746 hb; replace HB := bt_ HB hb; (try clear hb); (try clear hb2); (try clear hk); (try clear hi)))
  go_ret
  exact ⟨by first | rfl | (simp [errW_none, errW_some] <;> rfl) | (simp [*, errW_none, errW_some] <;> rfl), by repeat (first | (with_reducible first | exact HB.out | apply below_alloc | apply pw_below_drewN | apply below_drew1 | refine below_set ?_ GE745.out | refine below_set ?_ GE746.out) | exact HB.out)⟩
/-! ### laws_eqSideS: function 28 -/
def laws_eqSideS.l0 : Nat → List (S30) → List (S30) → Int → Option (Bool)
 | 0, _, _, _ => none
 | k + 1, x0, x1, x5 => if x5 < (x0.length : Int) then (if 0 ≤ x5 then (if x5 < (x1.length : Int) then ((laws_eqSide.f ((rd_T30 x0 x5).f0.f0) ((rd_T30 x0 x5).f0.f1) ((rd_T30 x0 x5).f0.f2) ((rd_T30 x0 x5).f1) ((rd_T30 x1 x5).f0.f0) ((rd_T30 x1 x5).f0.f1) ((rd_T30 x1 x5).f0.f2) ((rd_T30 x1 x5).f1)).bind fun t750 => (if t750 = true then (laws_eqSideS.l0 k x0 x1 (wrap64 (x5 + 1))) else (some false))) else (none)) else (none)) else (some true)
def laws_eqSideS.f (k : Nat) (l0 : List (S30)) (l1 : List (S30)) : Option (Bool) := if (l0.length : Int) = (l1.length : Int) then (laws_eqSideS.l0 k l0 l1 0) else (some false)
def laws_eqSideS.T6 : Bool × List (List Nat × List Nat) := (true, [([], []), ([], []), ([0, 1], [0, 1]), ([2], [2]), ([], []), ([], []), ([4, 5], [4, 5]), ([6], [6]), ([3, 7], [3, 7]), ([8], [8])])
def laws_eqSideS.B6 : List Nat := [0, 0, 3, 7, 0, 0, 48, 112, 255, 511]
theorem laws_eqSideS.tab6 : rtab .any (opsOf Try.f28 6) = laws_eqSideS.T6 := by kernel_rfl
theorem laws_eqSideS.bits6 : waitsOk laws_eqSideS.T6.2 laws_eqSideS.B6 = true := by kernel_rfl
set_option maxHeartbeats 8000000 in
set_option maxRecDepth 100000 in
theorem laws_eqSideS.calls (k : Nat) (A0 : Option Addr) (c0 : Nat) (l0 : List (S30)) (A1 : Option Addr) (c1 : Nat) (l1 : List (S30)) (r : Bool) (w : World) (hr0 : Kd.C k30 w A0 l0.length l0) (hc0 : l0.length ≤ c0) (hr1 : Kd.C k30 w A1 l1.length l1) (hc1 : l1.length ≤ c1) (h : laws_eqSideS.f k l0 l1 = some r) :
  Calls Try.prog 28 #[.slice A0 l0.length c0, .slice A1 l1.length c1] w fun e w' => e = .returned (.bool r) ∧ Below w.heap.size w w' := by
 have hu30 := Try.underlying30
 have HR0 := Aside0.mk hr0
 have HC0 := Aside0.mk hc0
 clear hr0 hc0
 have HR1 := Aside0.mk hr1
 have HC1 := Aside0.mk hc1
 clear hr1 hc1
 have HB := Aside0.mk (Below.refl w.heap.size w)
 have H : (if (l0.length : Int) = (l1.length : Int) then (laws_eqSideS.l0 k l0 l1 0) else (some false)) = some r := h
 clear h
 by_cases c3 : (l0.length : Int) = (l1.length : Int)
 ·rw [if_pos c3] at H
  have c3b0 : ((l0.length : Int) == (l1.length : Int)) = true := beq_iff_eq.mpr c3
  have c3b1 : ((l0.length : Int) != (l1.length : Int)) = false := bne_eq_false_iff_eq.mpr c3
  have c3b2 : (l0.length == l1.length) = true := by first | simpa using c3 | (simp at c3 ⊢; omega)
  clear c3
  have H' := Aside0.mk H
  clear H
  go_enter Try.func28, Try.ntmps28
  go_wp2
  go_loopg [5] k (fun kq v5 w' => ∃ (x5_1 : Int), v5 = .int .i64 x5_1 ∧ Aside0 (laws_eqSideS.l0 kq l0 l1 x5_1 = some r) ∧ Aside0 (kq ≤ k) ∧ Aside0 (Below w.heap.size w w'))
  case atStart => exact ⟨(0), (by first | rfl | (simp; done) | (simp [*]; done) | (simp [wrap64]; done)), H', ⟨Nat.le_refl _⟩, bw_ HB⟩
  case round =>
   clear H'
   try clear c1
   try clear c2
   try clear p2
   try clear c3
   try clear c3b0
   try clear c3b1
   try clear c3b2
   obtain ⟨x5_1, rfl, HA, HK1, HB⟩ := hrel
   cases gk with
   | zero => exact absurd HA.out (by simp [laws_eqSideS.l0])
   | succ k1 =>
    have H := HA.out
    clear HA
    simp only [laws_eqSideS.l0] at H
    by_cases c4 : x5_1 < (l0.length : Int)
    ·rw [if_pos c4] at H
     have c4b0 : decide (x5_1 < (l0.length : Int)) = true := decide_eq_true c4
     clear c4
     by_cases c5 : 0 ≤ x5_1
     ·rw [if_pos c5] at H
      have c5b0 : decide (0 ≤ x5_1) = true := decide_eq_true c5
      clear c5
      by_cases c6 : x5_1 < (l1.length : Int)
      ·rw [if_pos c6] at H
       have c6b0 : decide (x5_1 < (l1.length : Int)) = true := decide_eq_true c6
       clear c6
       replace H := Option.bind_eq_some_iff.mp H
       obtain ⟨t750, A70, H⟩ := H
       have A7 := Aside0.mk A70
       clear A70
       by_cases c8 : t750 = true
       ·subst c8
        have H1 : (laws_eqSideS.l0 k1 l0 l1 (wrap64 (x5_1 + 1))) = some r := by rw [if_pos rfl] at H; exact H
        clear H
        have H := H1
        clear H1
        have H' := Aside0.mk H
        clear H
        try go_wp2
        replace HB := Aside0.mk (below_drew1 HB.out)
        have p748 : 0 ≤ (x5_1 : Int) := of_decide_eq_true (by first | (with_reducible assumption) | assumption)
        have q748 : x5_1 < (l0.length : Int) := of_decide_eq_true (by first | (with_reducible assumption) | assumption)
        obtain ⟨ad748, e748, hx748_0, hx748_1, hx748_2, hx748_3⟩ := at_T30 HR0.out x5_1 p748 q748
        have hw748_3 := hx748_3
        have hw748_2 := hx748_2
        have hw748_1 := hx748_1
        have hw748_0 := hx748_0
        cases e748
        replace hx748_0 := clTr HB.out hx748_0
        replace hx748_1 := clTr HB.out hx748_1
        replace hx748_2 := clTr HB.out hx748_2
        replace hx748_3 := clTr HB.out hx748_3
        replace p748 := eq_true p748
        replace q748 := eq_true q748
        have p749 : 0 ≤ (x5_1 : Int) := of_decide_eq_true (by first | (with_reducible assumption) | assumption)
        have q749 : x5_1 < (l1.length : Int) := of_decide_eq_true (by first | (with_reducible assumption) | assumption)
        obtain ⟨ad749, e749, hx749_0, hx749_1, hx749_2, hx749_3⟩ := at_T30 HR1.out x5_1 p749 q749
        have hw749_3 := hx749_3
        have hw749_2 := hx749_2
        have hw749_1 := hx749_1
        have hw749_0 := hx749_0
        cases e749
        replace hx749_0 := clTr HB.out hx749_0
        replace hx749_1 := clTr HB.out hx749_1
        replace hx749_2 := clTr HB.out hx749_2
        replace hx749_3 := clTr HB.out hx749_3
        replace p749 := eq_true p749
        replace q749 := eq_true q749
        refine start_ (n := 10) (S := fun w' => w'.cell? (ad748.add ((x5_1).toNat * 4)) = some (.int .i64 ((rd_T30 l0 x5_1).f0.f0)) ∧ w'.cell? ⟨(ad748.add ((x5_1).toNat * 4)).block, (ad748.add ((x5_1).toNat * 4)).off + 1, none⟩ = some (.int .i64 ((rd_T30 l0 x5_1).f0.f1)) ∧ w'.cell? ⟨(ad748.add ((x5_1).toNat * 4)).block, (ad748.add ((x5_1).toNat * 4)).off + 2, none⟩ = some (.int .i64 ((rd_T30 l0 x5_1).f0.f2)) ∧ w'.cell? ⟨(ad748.add ((x5_1).toNat * 4)).block, (ad748.add ((x5_1).toNat * 4)).off + 3, none⟩ = some (.bool ((rd_T30 l0 x5_1).f1)) ∧ w'.cell? (ad749.add ((x5_1).toNat * 4)) = some (.int .i64 ((rd_T30 l1 x5_1).f0.f0)) ∧ w'.cell? ⟨(ad749.add ((x5_1).toNat * 4)).block, (ad749.add ((x5_1).toNat * 4)).off + 1, none⟩ = some (.int .i64 ((rd_T30 l1 x5_1).f0.f1)) ∧ w'.cell? ⟨(ad749.add ((x5_1).toNat * 4)).block, (ad749.add ((x5_1).toNat * 4)).off + 2, none⟩ = some (.int .i64 ((rd_T30 l1 x5_1).f0.f2)) ∧ w'.cell? ⟨(ad749.add ((x5_1).toNat * 4)).block, (ad749.add ((x5_1).toNat * 4)).off + 3, none⟩ = some (.bool ((rd_T30 l1 x5_1).f1))) (ds := []) #[false, false, false, false, false, false, false, false, false, false] (by kernel_rfl) rfl rfl ⟨(clTr HB.out hw748_0), (clTr HB.out hw748_1), (clTr HB.out hw748_2), (clTr HB.out hw748_3), (clTr HB.out hw749_0), (clTr HB.out hw749_1), (clTr HB.out hw749_2), (clTr HB.out hw749_3)⟩ (fun hHeld => ?_); refine with_tabW laws_eqSideS.tab6 laws_eqSideS.bits6 (fun HT_ HW_ => ?_)
        generalize wr.drew = w9 at HB hx748_0 hx748_1 hx748_2 hx748_3 hx749_0 hx749_1 hx749_2 hx749_3 hHeld ⊢
        refine pu_ HT_ 0 (some 17) #[true, false, false, false, false, false, false, false, false, false] ?_
        refine pu_ HT_ 1 (some 18) #[true, true, false, false, false, false, false, false, false, false] ?_
        refine pu_ HT_ 2 (some 19) #[true, true, true, false, false, false, false, false, false, false] ?_
        refine pu_ HT_ 4 (some 21) #[true, true, true, false, true, false, false, false, false, false] ?_
        refine pu_ HT_ 5 (some 22) #[true, true, true, false, true, true, false, false, false, false] ?_
        refine pu_ HT_ 6 (some 23) #[true, true, true, false, true, true, true, false, false, false] ?_
        refine ta_ HT_ HW_ 3 (some 20) #[true, true, true, true, true, true, true, false, false, false] hHeld ?_ (hy := by rintro w' ⟨s0, s1, s2, s3, s4, s5, s6, s7⟩; go_simp; with_reducible rfl)
        refine ta_ HT_ HW_ 7 (some 24) #[true, true, true, true, true, true, true, true, false, false] hHeld ?_ (hy := by rintro w' ⟨s0, s1, s2, s3, s4, s5, s6, s7⟩; go_simp; with_reducible rfl)
        refine one_ (i := 8) (N := some 25) #[true, true, true, true, true, true, true, true, true, false] rfl rfl (one_of HT_.out (by kernel_rfl)) (by decide) (fun K hK => ?_)
        refine goes_ Try.func13 (by kernel_rfl) rfl #[.agg #[.int .i64 ((rd_T30 l0 x5_1).f0.f0), .int .i64 ((rd_T30 l0 x5_1).f0.f1), .int .i64 ((rd_T30 l0 x5_1).f0.f2), .bool ((rd_T30 l0 x5_1).f1)], .agg #[.int .i64 ((rd_T30 l1 x5_1).f0.f0), .int .i64 ((rd_T30 l1 x5_1).f0.f1), .int .i64 ((rd_T30 l1 x5_1).f0.f2), .bool ((rd_T30 l1 x5_1).f1)]] (by rfl) rfl rfl (by (try simp only [List.map_toArray, List.map_cons, List.map_nil]); first | done | rfl | (simp only [List.length_drop, List.length_take]; rfl)) ?_
        with_reducible refine (laws_eqSide.calls ((rd_T30 l0 x5_1).f0.f0) ((rd_T30 l0 x5_1).f0.f1) ((rd_T30 l0 x5_1).f0.f2) ((rd_T30 l0 x5_1).f1) ((rd_T30 l1 x5_1).f0.f0) ((rd_T30 l1 x5_1).f0.f1) ((rd_T30 l1 x5_1).f0.f2) ((rd_T30 l1 x5_1).f1) true _ A7.out).mono ?_
        rintro e w10 ⟨rfl, hb⟩
        refine ⟨_, rfl, ?_⟩
        replace HB := bt_ HB hb
        (try clear hb)
        (try clear hb2)
        (try clear hk)
        (try clear hi)
        refine hK.out _ _ ⟨(clTr HB.out hw748_0), (clTr HB.out hw748_1), (clTr HB.out hw748_2), (clTr HB.out hw748_3), (clTr HB.out hw749_0), (clTr HB.out hw749_1), (clTr HB.out hw749_2), (clTr HB.out hw749_3)⟩ (fun hHeld => ?_)
        clear hK K
        refine norm_ (a' := ?_) ?_ ?_
        rotate_left
        ·show Act.put _ (some 25) _ = _
         simp only [Act.put, lstS, lstZ, lstC, i64_w, i32_w]
         rfl
        refine pu_ HT_ 9 (some 26) #[true, true, true, true, true, true, true, true, true, true] ?_
        refine done_ (done_of HT_.out (by kernel_rfl)) ?_
        try go_wp2
        go_roundg k1
        case measure => have := HK1.out; omega
        case rel => exact ⟨(wrap64 (x5_1 + 1)), (by first | rfl | (simp; done) | (simp [*]; done) | (simp [wrap64]; done)), H', ⟨by have := HK1.out; omega⟩, bw_ HB⟩
       ·replace c8 := Bool.eq_false_iff.mpr c8
        subst c8
        have H1 : (some false) = some r := by rw [if_neg (show ¬ (false = true) by decide)] at H; exact H
        clear H
        have H := H1
        clear H1
        obtain rfl := Option.some.inj H
        try go_wp2
        replace HB := Aside0.mk (below_drew1 HB.out)
        have p748 : 0 ≤ (x5_1 : Int) := of_decide_eq_true (by first | (with_reducible assumption) | assumption)
        have q748 : x5_1 < (l0.length : Int) := of_decide_eq_true (by first | (with_reducible assumption) | assumption)
        obtain ⟨ad748, e748, hx748_0, hx748_1, hx748_2, hx748_3⟩ := at_T30 HR0.out x5_1 p748 q748
        have hw748_3 := hx748_3
        have hw748_2 := hx748_2
        have hw748_1 := hx748_1
        have hw748_0 := hx748_0
        cases e748
        replace hx748_0 := clTr HB.out hx748_0
        replace hx748_1 := clTr HB.out hx748_1
        replace hx748_2 := clTr HB.out hx748_2
        replace hx748_3 := clTr HB.out hx748_3
        replace p748 := eq_true p748
        replace q748 := eq_true q748
        have p749 : 0 ≤ (x5_1 : Int) := of_decide_eq_true (by first | (with_reducible assumption) | assumption)
        have q749 : x5_1 < (l1.length : Int) := of_decide_eq_true (by first | (with_reducible assumption) | assumption)
        obtain ⟨ad749, e749, hx749_0, hx749_1, hx749_2, hx749_3⟩ := at_T30 HR1.out x5_1 p749 q749
        have hw749_3 := hx749_3
        have hw749_2 := hx749_2
        have hw749_1 := hx749_1
        have hw749_0 := hx749_0
        cases e749
        replace hx749_0 := clTr HB.out hx749_0
        replace hx749_1 := clTr HB.out hx749_1
        replace hx749_2 := clTr HB.out hx749_2
        replace hx749_3 := clTr HB.out hx749_3
        replace p749 := eq_true p749
        replace q749 := eq_true q749
        refine start_ (n := 10) (S := fun w' => w'.cell? (ad748.add ((x5_1).toNat * 4)) = some (.int .i64 ((rd_T30 l0 x5_1).f0.f0)) ∧ w'.cell? ⟨(ad748.add ((x5_1).toNat * 4)).block, (ad748.add ((x5_1).toNat * 4)).off + 1, none⟩ = some (.int .i64 ((rd_T30 l0 x5_1).f0.f1)) ∧ w'.cell? ⟨(ad748.add ((x5_1).toNat * 4)).block, (ad748.add ((x5_1).toNat * 4)).off + 2, none⟩ = some (.int .i64 ((rd_T30 l0 x5_1).f0.f2)) ∧ w'.cell? ⟨(ad748.add ((x5_1).toNat * 4)).block, (ad748.add ((x5_1).toNat * 4)).off + 3, none⟩ = some (.bool ((rd_T30 l0 x5_1).f1)) ∧ w'.cell? (ad749.add ((x5_1).toNat * 4)) = some (.int .i64 ((rd_T30 l1 x5_1).f0.f0)) ∧ w'.cell? ⟨(ad749.add ((x5_1).toNat * 4)).block, (ad749.add ((x5_1).toNat * 4)).off + 1, none⟩ = some (.int .i64 ((rd_T30 l1 x5_1).f0.f1)) ∧ w'.cell? ⟨(ad749.add ((x5_1).toNat * 4)).block, (ad749.add ((x5_1).toNat * 4)).off + 2, none⟩ = some (.int .i64 ((rd_T30 l1 x5_1).f0.f2)) ∧ w'.cell? ⟨(ad749.add ((x5_1).toNat * 4)).block, (ad749.add ((x5_1).toNat * 4)).off + 3, none⟩ = some (.bool ((rd_T30 l1 x5_1).f1))) (ds := []) #[false, false, false, false, false, false, false, false, false, false] (by kernel_rfl) rfl rfl ⟨(clTr HB.out hw748_0), (clTr HB.out hw748_1), (clTr HB.out hw748_2), (clTr HB.out hw748_3), (clTr HB.out hw749_0), (clTr HB.out hw749_1), (clTr HB.out hw749_2), (clTr HB.out hw749_3)⟩ (fun hHeld => ?_); refine with_tabW laws_eqSideS.tab6 laws_eqSideS.bits6 (fun HT_ HW_ => ?_)
        generalize wr.drew = w11 at HB hx748_0 hx748_1 hx748_2 hx748_3 hx749_0 hx749_1 hx749_2 hx749_3 hHeld ⊢
        refine pu_ HT_ 0 (some 17) #[true, false, false, false, false, false, false, false, false, false] ?_
        refine pu_ HT_ 1 (some 18) #[true, true, false, false, false, false, false, false, false, false] ?_
        refine pu_ HT_ 2 (some 19) #[true, true, true, false, false, false, false, false, false, false] ?_
        refine pu_ HT_ 4 (some 21) #[true, true, true, false, true, false, false, false, false, false] ?_
        refine pu_ HT_ 5 (some 22) #[true, true, true, false, true, true, false, false, false, false] ?_
        refine pu_ HT_ 6 (some 23) #[true, true, true, false, true, true, true, false, false, false] ?_
        refine ta_ HT_ HW_ 3 (some 20) #[true, true, true, true, true, true, true, false, false, false] hHeld ?_ (hy := by rintro w' ⟨s0, s1, s2, s3, s4, s5, s6, s7⟩; go_simp; with_reducible rfl)
        refine ta_ HT_ HW_ 7 (some 24) #[true, true, true, true, true, true, true, true, false, false] hHeld ?_ (hy := by rintro w' ⟨s0, s1, s2, s3, s4, s5, s6, s7⟩; go_simp; with_reducible rfl)
        refine one_ (i := 8) (N := some 25) #[true, true, true, true, true, true, true, true, true, false] rfl rfl (one_of HT_.out (by kernel_rfl)) (by decide) (fun K hK => ?_)
        refine goes_ Try.func13 (by kernel_rfl) rfl #[.agg #[.int .i64 ((rd_T30 l0 x5_1).f0.f0), .int .i64 ((rd_T30 l0 x5_1).f0.f1), .int .i64 ((rd_T30 l0 x5_1).f0.f2), .bool ((rd_T30 l0 x5_1).f1)], .agg #[.int .i64 ((rd_T30 l1 x5_1).f0.f0), .int .i64 ((rd_T30 l1 x5_1).f0.f1), .int .i64 ((rd_T30 l1 x5_1).f0.f2), .bool ((rd_T30 l1 x5_1).f1)]] (by rfl) rfl rfl (by (try simp only [List.map_toArray, List.map_cons, List.map_nil]); first | done | rfl | (simp only [List.length_drop, List.length_take]; rfl)) ?_
        with_reducible refine (laws_eqSide.calls ((rd_T30 l0 x5_1).f0.f0) ((rd_T30 l0 x5_1).f0.f1) ((rd_T30 l0 x5_1).f0.f2) ((rd_T30 l0 x5_1).f1) ((rd_T30 l1 x5_1).f0.f0) ((rd_T30 l1 x5_1).f0.f1) ((rd_T30 l1 x5_1).f0.f2) ((rd_T30 l1 x5_1).f1) false _ A7.out).mono ?_
        rintro e w12 ⟨rfl, hb⟩
        refine ⟨_, rfl, ?_⟩
        replace HB := bt_ HB hb
        (try clear hb)
        (try clear hb2)
        (try clear hk)
        (try clear hi)
        refine hK.out _ _ ⟨(clTr HB.out hw748_0), (clTr HB.out hw748_1), (clTr HB.out hw748_2), (clTr HB.out hw748_3), (clTr HB.out hw749_0), (clTr HB.out hw749_1), (clTr HB.out hw749_2), (clTr HB.out hw749_3)⟩ (fun hHeld => ?_)
        clear hK K
        refine norm_ (a' := ?_) ?_ ?_
        rotate_left
        ·show Act.put _ (some 25) _ = _
         simp only [Act.put, lstS, lstZ, lstC, i64_w, i32_w]
         rfl
        refine pu_ HT_ 9 (some 26) #[true, true, true, true, true, true, true, true, true, true] ?_
        refine done_ (done_of HT_.out (by kernel_rfl)) ?_
        try go_wp2
        go_ret
        exact ⟨by first | rfl | (simp [errW_none, errW_some] <;> rfl) | (simp [*, errW_none, errW_some] <;> rfl), by repeat (first | (with_reducible first | exact HB.out | apply below_alloc | apply pw_below_drewN | apply below_drew1) | exact HB.out)⟩
      ·rw [if_neg c6] at H
       exact absurd H (by simp)
     ·rw [if_neg c5] at H
      exact absurd H (by simp)
    ·rw [if_neg c4] at H
     have c4b0 : decide (x5_1 < (l0.length : Int)) = false := decide_eq_false c4
     clear c4
     obtain rfl := Option.some.inj H
     go_wp2
     go_ret
     exact ⟨by first | rfl | (simp [errW_none, errW_some] <;> rfl) | (simp [*, errW_none, errW_some] <;> rfl), by repeat (first | (with_reducible first | exact HB.out | apply below_alloc | apply pw_below_drewN | apply below_drew1) | exact HB.out)⟩
 ·rw [if_neg c3] at H
  have c3b0 : ((l0.length : Int) == (l1.length : Int)) = false := beq_eq_false_iff_ne.mpr c3
  have c3b1 : ((l0.length : Int) != (l1.length : Int)) = true := bne_iff_ne.mpr c3
  have c3b2 : (l0.length == l1.length) = false := by first | simpa using c3 | (simp at c3 ⊢; omega)
  obtain rfl := Option.some.inj H
  go_enter Try.func28, Try.ntmps28
  go_wp2
  go_ret
  exact ⟨by first | rfl | (simp [errW_none, errW_some] <;> rfl) | (simp [*, errW_none, errW_some] <;> rfl), by repeat (first | (with_reducible first | exact HB.out | apply below_alloc | apply pw_below_drewN | apply below_drew1) | exact HB.out)⟩
end Go.Proofs.Ytojpcbbmbnmchaa.QC
