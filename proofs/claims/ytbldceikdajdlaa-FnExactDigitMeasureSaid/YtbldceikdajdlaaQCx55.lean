-- Written by a program of this session out of Lean's own print of the loaded program; Lean checks it.
import Derived.Test.YtbldceikdajdlaaQCx5
import Derived.Test.YtbldceikdajdlaaQCx52
namespace Go.Proofs.Ytbldceikdajdlaa.QC
open Go.RowKit Go.Proofs.YtbldceikdajdlaaW.PrintWords Go.Proofs.YtbldceikdajdlaaW.PrintLast Go.Proofs.YtbldceikdajdlaaW.PrintMore
attribute [local go_sem] isSome_setCell max2_int min2_int max_two min_two max_three min_three max_four min_four   -- for this text's walks alone
set_option linter.unusedVariables false
set_option linter.unusedSimpArgs false

/-! ### laws_eqPiece: function 69 -/
def laws_eqPiece.f (a0_0 : Int) (a0_1 : Int) (a0_2 : Int) (a0_3 : Int) (a1_0 : Int) (a1_1 : Int) (a1_2 : Int) (a1_3 : Int) : Option (Bool) := (laws_eqBall.f a0_0 a0_1 a0_2 a1_0 a1_1 a1_2).bind fun t319 => (if t319 = true then (if a0_3 = a1_3 then (some true) else (some false)) else (some false))
set_option maxHeartbeats 8000000 in
set_option maxRecDepth 100000 in
theorem laws_eqPiece.calls (a0_0 : Int) (a0_1 : Int) (a0_2 : Int) (a0_3 : Int) (a1_0 : Int) (a1_1 : Int) (a1_2 : Int) (a1_3 : Int) (r : Bool) (w : World) (h : laws_eqPiece.f a0_0 a0_1 a0_2 a0_3 a1_0 a1_1 a1_2 a1_3 = some r) :
  Calls Try.prog 69 #[.agg #[.int .i64 a0_0, .int .i64 a0_1, .int .i64 a0_2, .int .i64 a0_3], .agg #[.int .i64 a1_0, .int .i64 a1_1, .int .i64 a1_2, .int .i64 a1_3]] w fun e w' => e = .returned (.bool r) ∧ Below w.heap.size w w' := by
 have hu52 := Try.underlying52
 have hu25 := Try.underlying25
 have HB := Aside0.mk (Below.refl w.heap.size w)
 have H : ((laws_eqBall.f a0_0 a0_1 a0_2 a1_0 a1_1 a1_2).bind fun t319 => (if t319 = true then (if a0_3 = a1_3 then (some true) else (some false)) else (some false))) = some r := h
 clear h
 replace H := Option.bind_eq_some_iff.mp H
 obtain ⟨t319, A30, H⟩ := H
 have A3 := Aside0.mk A30
 clear A30
 by_cases c4 : t319 = true
 ·subst c4
  have H1 : (if a0_3 = a1_3 then (some true) else (some false)) = some r := by rw [if_pos rfl] at H; exact H
  clear H
  have H := H1
  clear H1
  by_cases c5 : a0_3 = a1_3
  ·rw [if_pos c5] at H
   have c5b0 : (a0_3 == a1_3) = true := beq_iff_eq.mpr c5
   have c5b1 : (a0_3 != a1_3) = false := bne_eq_false_iff_eq.mpr c5
   clear c5
   obtain rfl := Option.some.inj H
   go_enter Try.func69, Try.ntmps69
   go_wp2_with (first | ((with_reducible refine gate_dst (N := 2) rfl ?_); refine bx_ 2 #[.int .i64 a0_0, .int .i64 a0_1, .int .i64 a0_2, .int .i64 a0_3] 52 ?_; intro gb317 hg w6 hbox hb; have BK317 := Aside0.mk (hbox); have GW317 := bs_ HB hg; have GE317 := bs_ HB hg; replace HB := bt_ HB hb; clear hb hbox hg) | ((with_reducible refine gate_dst (N := 3) rfl ?_); refine bx_ 3 #[.int .i64 a1_0, .int .i64 a1_1, .int .i64 a1_2, .int .i64 a1_3] 52 ?_; intro gb318 hg w7 hbox hb; have BK318 := Aside0.mk (hbox); have GW318 := bs_ HB hg; have GE318 := bs_ HB hg; have NB317_318 := bm_ BK317 hg; have NB318_317 := bn_ BK317 hg; replace BK317 := bb_ BK317 hb; replace HB := bt_ HB hb; clear hb hbox hg; have hnb8 := NB317_318.out; have hnc8 := NB318_317.out; have hcz9_0 : w7.cell? ⟨gb317, 0, none⟩ = some (.int .i64 a0_0) := cz_ BK317 0; have hcz9_1 : w7.cell? ⟨gb317, 1, none⟩ = some (.int .i64 a0_1) := cz_ BK317 1; have hcz9_2 : w7.cell? ⟨gb317, 2, none⟩ = some (.int .i64 a0_2) := cz_ BK317 2; have hcz9_3 : w7.cell? ⟨gb317, 3, none⟩ = some (.int .i64 a0_3) := cz_ BK317 3; have hfz9_0 := fz_ BK317 0; have hfz9_1 := fz_ BK317 1; have hfz9_2 := fz_ BK317 2; have hfz9_3 := fz_ BK317 3; have hcz10_0 : w7.cell? ⟨gb318, 0, none⟩ = some (.int .i64 a1_0) := cz_ BK318 0; have hcz10_1 : w7.cell? ⟨gb318, 1, none⟩ = some (.int .i64 a1_1) := cz_ BK318 1; have hcz10_2 : w7.cell? ⟨gb318, 2, none⟩ = some (.int .i64 a1_2) := cz_ BK318 2; have hcz10_3 : w7.cell? ⟨gb318, 3, none⟩ = some (.int .i64 a1_3) := cz_ BK318 3; have hfz10_0 := fz_ BK318 0; have hfz10_1 := fz_ BK318 1; have hfz10_2 := fz_ BK318 2; have hfz10_3 := fz_ BK318 3) | ((with_reducible refine gate_callee (f := 34) rfl ?_); refine ge_ 9 Try.func34 #[.agg #[.int .i64 a0_0, .int .i64 a0_1, .int .i64 a0_2], .agg #[.int .i64 a1_0, .int .i64 a1_1, .int .i64 a1_2]] ?_; (with_reducible refine (laws_eqBall.calls a0_0 a0_1 a0_2 a1_0 a1_1 a1_2 true _ A3.out).mono ?_); rintro e w11 ⟨rfl, hb⟩; refine ⟨_, rfl, ?_⟩; replace BK317 := bb_ BK317 hb; replace BK318 := bb_ BK318 hb; replace HB := bt_ HB hb; (try clear hb); (try clear hb2); (try clear hk); (try clear hi); have hcz12_0 : w11.cell? ⟨gb317, 0, none⟩ = some (.int .i64 a0_0) := cz_ BK317 0; have hcz12_1 : w11.cell? ⟨gb317, 1, none⟩ = some (.int .i64 a0_1) := cz_ BK317 1; have hcz12_2 : w11.cell? ⟨gb317, 2, none⟩ = some (.int .i64 a0_2) := cz_ BK317 2; have hcz12_3 : w11.cell? ⟨gb317, 3, none⟩ = some (.int .i64 a0_3) := cz_ BK317 3; have hfz12_0 := fz_ BK317 0; have hfz12_1 := fz_ BK317 1; have hfz12_2 := fz_ BK317 2; have hfz12_3 := fz_ BK317 3; have hcz13_0 : w11.cell? ⟨gb318, 0, none⟩ = some (.int .i64 a1_0) := cz_ BK318 0; have hcz13_1 : w11.cell? ⟨gb318, 1, none⟩ = some (.int .i64 a1_1) := cz_ BK318 1; have hcz13_2 : w11.cell? ⟨gb318, 2, none⟩ = some (.int .i64 a1_2) := cz_ BK318 2; have hcz13_3 : w11.cell? ⟨gb318, 3, none⟩ = some (.int .i64 a1_3) := cz_ BK318 3; have hfz13_0 := fz_ BK318 0; have hfz13_1 := fz_ BK318 1; have hfz13_2 := fz_ BK318 2; have hfz13_3 := fz_ BK318 3))
   go_ret
   exact ⟨by first | rfl | (simp [errW_none, errW_some] <;> rfl) | (simp [*, errW_none, errW_some] <;> rfl), by repeat (first | (with_reducible first | exact HB.out | apply below_alloc | apply pw_below_drewN | apply below_drew1 | refine below_set ?_ GE317.out | refine below_set ?_ GE318.out) | exact HB.out)⟩
  ·rw [if_neg c5] at H
   have c5b0 : (a0_3 == a1_3) = false := beq_eq_false_iff_ne.mpr c5
   have c5b1 : (a0_3 != a1_3) = true := bne_iff_ne.mpr c5
   obtain rfl := Option.some.inj H
   go_enter Try.func69, Try.ntmps69
   go_wp2_with (first | ((with_reducible refine gate_dst (N := 2) rfl ?_); refine bx_ 2 #[.int .i64 a0_0, .int .i64 a0_1, .int .i64 a0_2, .int .i64 a0_3] 52 ?_; intro gb317 hg w14 hbox hb; have BK317 := Aside0.mk (hbox); have GW317 := bs_ HB hg; have GE317 := bs_ HB hg; replace HB := bt_ HB hb; clear hb hbox hg) | ((with_reducible refine gate_dst (N := 3) rfl ?_); refine bx_ 3 #[.int .i64 a1_0, .int .i64 a1_1, .int .i64 a1_2, .int .i64 a1_3] 52 ?_; intro gb318 hg w15 hbox hb; have BK318 := Aside0.mk (hbox); have GW318 := bs_ HB hg; have GE318 := bs_ HB hg; have NB317_318 := bm_ BK317 hg; have NB318_317 := bn_ BK317 hg; replace BK317 := bb_ BK317 hb; replace HB := bt_ HB hb; clear hb hbox hg; have hnb16 := NB317_318.out; have hnc16 := NB318_317.out; have hcz17_0 : w15.cell? ⟨gb317, 0, none⟩ = some (.int .i64 a0_0) := cz_ BK317 0; have hcz17_1 : w15.cell? ⟨gb317, 1, none⟩ = some (.int .i64 a0_1) := cz_ BK317 1; have hcz17_2 : w15.cell? ⟨gb317, 2, none⟩ = some (.int .i64 a0_2) := cz_ BK317 2; have hcz17_3 : w15.cell? ⟨gb317, 3, none⟩ = some (.int .i64 a0_3) := cz_ BK317 3; have hfz17_0 := fz_ BK317 0; have hfz17_1 := fz_ BK317 1; have hfz17_2 := fz_ BK317 2; have hfz17_3 := fz_ BK317 3; have hcz18_0 : w15.cell? ⟨gb318, 0, none⟩ = some (.int .i64 a1_0) := cz_ BK318 0; have hcz18_1 : w15.cell? ⟨gb318, 1, none⟩ = some (.int .i64 a1_1) := cz_ BK318 1; have hcz18_2 : w15.cell? ⟨gb318, 2, none⟩ = some (.int .i64 a1_2) := cz_ BK318 2; have hcz18_3 : w15.cell? ⟨gb318, 3, none⟩ = some (.int .i64 a1_3) := cz_ BK318 3; have hfz18_0 := fz_ BK318 0; have hfz18_1 := fz_ BK318 1; have hfz18_2 := fz_ BK318 2; have hfz18_3 := fz_ BK318 3) | ((with_reducible refine gate_callee (f := 34) rfl ?_); refine ge_ 9 Try.func34 #[.agg #[.int .i64 a0_0, .int .i64 a0_1, .int .i64 a0_2], .agg #[.int .i64 a1_0, .int .i64 a1_1, .int .i64 a1_2]] ?_; (with_reducible refine (laws_eqBall.calls a0_0 a0_1 a0_2 a1_0 a1_1 a1_2 true _ A3.out).mono ?_); rintro e w19 ⟨rfl, hb⟩; refine ⟨_, rfl, ?_⟩; replace BK317 := bb_ BK317 hb; replace BK318 := bb_ BK318 hb; replace HB := bt_ HB hb; (try clear hb); (try clear hb2); (try clear hk); (try clear hi); have hcz20_0 : w19.cell? ⟨gb317, 0, none⟩ = some (.int .i64 a0_0) := cz_ BK317 0; have hcz20_1 : w19.cell? ⟨gb317, 1, none⟩ = some (.int .i64 a0_1) := cz_ BK317 1; have hcz20_2 : w19.cell? ⟨gb317, 2, none⟩ = some (.int .i64 a0_2) := cz_ BK317 2; have hcz20_3 : w19.cell? ⟨gb317, 3, none⟩ = some (.int .i64 a0_3) := cz_ BK317 3; have hfz20_0 := fz_ BK317 0; have hfz20_1 := fz_ BK317 1; have hfz20_2 := fz_ BK317 2; have hfz20_3 := fz_ BK317 3; have hcz21_0 : w19.cell? ⟨gb318, 0, none⟩ = some (.int .i64 a1_0) := cz_ BK318 0; have hcz21_1 : w19.cell? ⟨gb318, 1, none⟩ = some (.int .i64 a1_1) := cz_ BK318 1; have hcz21_2 : w19.cell? ⟨gb318, 2, none⟩ = some (.int .i64 a1_2) := cz_ BK318 2; have hcz21_3 : w19.cell? ⟨gb318, 3, none⟩ = some (.int .i64 a1_3) := cz_ BK318 3; have hfz21_0 := fz_ BK318 0; have hfz21_1 := fz_ BK318 1; have hfz21_2 := fz_ BK318 2; have hfz21_3 := fz_ BK318 3))
   go_ret
   exact ⟨by first | rfl | (simp [errW_none, errW_some] <;> rfl) | (simp [*, errW_none, errW_some] <;> rfl), by repeat (first | (with_reducible first | exact HB.out | apply below_alloc | apply pw_below_drewN | apply below_drew1 | refine below_set ?_ GE317.out | refine below_set ?_ GE318.out) | exact HB.out)⟩
 ·replace c4 := Bool.eq_false_iff.mpr c4
  subst c4
  have H1 : (some false) = some r := by rw [if_neg (show ¬ (false = true) by decide)] at H; exact H
  clear H
  have H := H1
  clear H1
  obtain rfl := Option.some.inj H
  go_enter Try.func69, Try.ntmps69
  go_wp2_with (first | ((with_reducible refine gate_dst (N := 2) rfl ?_); refine bx_ 2 #[.int .i64 a0_0, .int .i64 a0_1, .int .i64 a0_2, .int .i64 a0_3] 52 ?_; intro gb317 hg w22 hbox hb; have BK317 := Aside0.mk (hbox); have GW317 := bs_ HB hg; have GE317 := bs_ HB hg; replace HB := bt_ HB hb; clear hb hbox hg) | ((with_reducible refine gate_dst (N := 3) rfl ?_); refine bx_ 3 #[.int .i64 a1_0, .int .i64 a1_1, .int .i64 a1_2, .int .i64 a1_3] 52 ?_; intro gb318 hg w23 hbox hb; have BK318 := Aside0.mk (hbox); have GW318 := bs_ HB hg; have GE318 := bs_ HB hg; have NB317_318 := bm_ BK317 hg; have NB318_317 := bn_ BK317 hg; replace BK317 := bb_ BK317 hb; replace HB := bt_ HB hb; clear hb hbox hg; have hnb24 := NB317_318.out; have hnc24 := NB318_317.out; have hcz25_0 : w23.cell? ⟨gb317, 0, none⟩ = some (.int .i64 a0_0) := cz_ BK317 0; have hcz25_1 : w23.cell? ⟨gb317, 1, none⟩ = some (.int .i64 a0_1) := cz_ BK317 1; have hcz25_2 : w23.cell? ⟨gb317, 2, none⟩ = some (.int .i64 a0_2) := cz_ BK317 2; have hcz25_3 : w23.cell? ⟨gb317, 3, none⟩ = some (.int .i64 a0_3) := cz_ BK317 3; have hfz25_0 := fz_ BK317 0; have hfz25_1 := fz_ BK317 1; have hfz25_2 := fz_ BK317 2; have hfz25_3 := fz_ BK317 3; have hcz26_0 : w23.cell? ⟨gb318, 0, none⟩ = some (.int .i64 a1_0) := cz_ BK318 0; have hcz26_1 : w23.cell? ⟨gb318, 1, none⟩ = some (.int .i64 a1_1) := cz_ BK318 1; have hcz26_2 : w23.cell? ⟨gb318, 2, none⟩ = some (.int .i64 a1_2) := cz_ BK318 2; have hcz26_3 : w23.cell? ⟨gb318, 3, none⟩ = some (.int .i64 a1_3) := cz_ BK318 3; have hfz26_0 := fz_ BK318 0; have hfz26_1 := fz_ BK318 1; have hfz26_2 := fz_ BK318 2; have hfz26_3 := fz_ BK318 3) | ((with_reducible refine gate_callee (f := 34) rfl ?_); refine ge_ 9 Try.func34 #[.agg #[.int .i64 a0_0, .int .i64 a0_1, .int .i64 a0_2], .agg #[.int .i64 a1_0, .int .i64 a1_1, .int .i64 a1_2]] ?_; (with_reducible refine (laws_eqBall.calls a0_0 a0_1 a0_2 a1_0 a1_1 a1_2 false _ A3.out).mono ?_); rintro e w27 ⟨rfl, hb⟩; refine ⟨_, rfl, ?_⟩; replace BK317 := bb_ BK317 hb; replace BK318 := bb_ BK318 hb; replace HB := bt_ HB hb; (try clear hb); (try clear hb2); (try clear hk); (try clear hi)))
  go_ret
  exact ⟨by first | rfl | (simp [errW_none, errW_some] <;> rfl) | (simp [*, errW_none, errW_some] <;> rfl), by repeat (first | (with_reducible first | exact HB.out | apply below_alloc | apply pw_below_drewN | apply below_drew1 | refine below_set ?_ GE317.out | refine below_set ?_ GE318.out) | exact HB.out)⟩
/-! ### laws_eqPieceS: function 35 -/
def laws_eqPieceS.l0 : Nat → List (S52) → List (S52) → Int → Option (Bool)
 | 0, _, _, _ => none
 | k + 1, x0, x1, x5 => if x5 < (x0.length : Int) then (if 0 ≤ x5 then (if x5 < (x1.length : Int) then ((laws_eqPiece.f ((rd_T52 x0 x5).f0.f0) ((rd_T52 x0 x5).f0.f1) ((rd_T52 x0 x5).f0.f2) ((rd_T52 x0 x5).f1) ((rd_T52 x1 x5).f0.f0) ((rd_T52 x1 x5).f0.f1) ((rd_T52 x1 x5).f0.f2) ((rd_T52 x1 x5).f1)).bind fun t322 => (if t322 = true then (laws_eqPieceS.l0 k x0 x1 (wrap64 (x5 + 1))) else (some false))) else (none)) else (none)) else (some true)
def laws_eqPieceS.f (k : Nat) (l0 : List (S52)) (l1 : List (S52)) : Option (Bool) := if (l0.length : Int) = (l1.length : Int) then (laws_eqPieceS.l0 k l0 l1 0) else (some false)
def laws_eqPieceS.T6 : Bool × List (List Nat × List Nat) := (true, [([], []), ([], []), ([0, 1], [0, 1]), ([2], [2]), ([], []), ([], []), ([4, 5], [4, 5]), ([6], [6]), ([3, 7], [3, 7]), ([8], [8])])
def laws_eqPieceS.B6 : List Nat := [0, 0, 3, 7, 0, 0, 48, 112, 255, 511]
theorem laws_eqPieceS.tab6 : rtab .any (opsOf Try.f35 6) = laws_eqPieceS.T6 := by kernel_rfl
theorem laws_eqPieceS.bits6 : waitsOk laws_eqPieceS.T6.2 laws_eqPieceS.B6 = true := by kernel_rfl
set_option maxHeartbeats 8000000 in
set_option maxRecDepth 100000 in
theorem laws_eqPieceS.calls (k : Nat) (A0 : Option Addr) (c0 : Nat) (l0 : List (S52)) (A1 : Option Addr) (c1 : Nat) (l1 : List (S52)) (r : Bool) (w : World) (hr0 : Kd.C k52 w A0 l0.length l0) (hc0 : l0.length ≤ c0) (hr1 : Kd.C k52 w A1 l1.length l1) (hc1 : l1.length ≤ c1) (h : laws_eqPieceS.f k l0 l1 = some r) :
  Calls Try.prog 35 #[.slice A0 l0.length c0, .slice A1 l1.length c1] w fun e w' => e = .returned (.bool r) ∧ Below w.heap.size w w' := by
 have hu52 := Try.underlying52
 have HR0 := Aside0.mk hr0
 have HC0 := Aside0.mk hc0
 clear hr0 hc0
 have HR1 := Aside0.mk hr1
 have HC1 := Aside0.mk hc1
 clear hr1 hc1
 have HB := Aside0.mk (Below.refl w.heap.size w)
 have H : (if (l0.length : Int) = (l1.length : Int) then (laws_eqPieceS.l0 k l0 l1 0) else (some false)) = some r := h
 clear h
 by_cases c3 : (l0.length : Int) = (l1.length : Int)
 ·rw [if_pos c3] at H
  have c3b0 : ((l0.length : Int) == (l1.length : Int)) = true := beq_iff_eq.mpr c3
  have c3b1 : ((l0.length : Int) != (l1.length : Int)) = false := bne_eq_false_iff_eq.mpr c3
  have c3b2 : (l0.length == l1.length) = true := by first | simpa using c3 | (simp at c3 ⊢; omega)
  clear c3
  have H' := Aside0.mk H
  clear H
  go_enter Try.func35, Try.ntmps35
  go_wp2
  go_loopg [5] k (fun kq v5 w' => ∃ (x5_1 : Int), v5 = .int .i64 x5_1 ∧ Aside0 (laws_eqPieceS.l0 kq l0 l1 x5_1 = some r) ∧ Aside0 (kq ≤ k) ∧ Aside0 (Below w.heap.size w w'))
  case atStart => exact ⟨(0), (by first | rfl | (simp; done) | (simp [*]; done) | (simp [wrap64]; done)), H', ⟨Nat.le_refl _⟩, bw_ HB⟩
  case round =>
   clear H'
   try clear c1
   try clear p2
   try clear c3
   try clear c3b0
   try clear c3b1
   try clear c3b2
   obtain ⟨x5_1, rfl, HA, HK1, HB⟩ := hrel
   cases gk with
   | zero => exact absurd HA.out (by simp [laws_eqPieceS.l0])
   | succ k1 =>
    have H := HA.out
    clear HA
    simp only [laws_eqPieceS.l0] at H
    by_cases c4 : x5_1 < (l0.length : Int)
    ·rw [if_pos c4] at H
     have c4b0 : decide (x5_1 < (l0.length : Int)) = true := decide_eq_true c4
     clear c4
     by_cases c5 : 0 ≤ x5_1
     ·rw [if_pos c5] at H
      have c5b0 : decide (0 ≤ x5_1) = true := decide_eq_true c5
      clear c5
      by_cases c6 : x5_1 < (l1.length : Int)
      ·rw [if_pos c6] at H
       have c6b0 : decide (x5_1 < (l1.length : Int)) = true := decide_eq_true c6
       clear c6
       replace H := Option.bind_eq_some_iff.mp H
       obtain ⟨t322, A70, H⟩ := H
       have A7 := Aside0.mk A70
       clear A70
       by_cases c8 : t322 = true
       ·subst c8
        have H1 : (laws_eqPieceS.l0 k1 l0 l1 (wrap64 (x5_1 + 1))) = some r := by rw [if_pos rfl] at H; exact H
        clear H
        have H := H1
        clear H1
        have H' := Aside0.mk H
        clear H
        try go_wp2
        replace HB := Aside0.mk (below_drew1 HB.out)
        have p320 : 0 ≤ (x5_1 : Int) := of_decide_eq_true (by first | (with_reducible assumption) | assumption)
        have q320 : x5_1 < (l0.length : Int) := of_decide_eq_true (by first | (with_reducible assumption) | assumption)
        obtain ⟨ad320, e320, hx320_0, hx320_1, hx320_2, hx320_3⟩ := at_T52 HR0.out x5_1 p320 q320
        have hw320_3 := hx320_3
        have hw320_2 := hx320_2
        have hw320_1 := hx320_1
        have hw320_0 := hx320_0
        cases e320
        replace hx320_0 := clTr HB.out hx320_0
        replace hx320_1 := clTr HB.out hx320_1
        replace hx320_2 := clTr HB.out hx320_2
        replace hx320_3 := clTr HB.out hx320_3
        replace p320 := eq_true p320
        replace q320 := eq_true q320
        have p321 : 0 ≤ (x5_1 : Int) := of_decide_eq_true (by first | (with_reducible assumption) | assumption)
        have q321 : x5_1 < (l1.length : Int) := of_decide_eq_true (by first | (with_reducible assumption) | assumption)
        obtain ⟨ad321, e321, hx321_0, hx321_1, hx321_2, hx321_3⟩ := at_T52 HR1.out x5_1 p321 q321
        have hw321_3 := hx321_3
        have hw321_2 := hx321_2
        have hw321_1 := hx321_1
        have hw321_0 := hx321_0
        cases e321
        replace hx321_0 := clTr HB.out hx321_0
        replace hx321_1 := clTr HB.out hx321_1
        replace hx321_2 := clTr HB.out hx321_2
        replace hx321_3 := clTr HB.out hx321_3
        replace p321 := eq_true p321
        replace q321 := eq_true q321
        refine start_ (n := 10) (S := fun w' => w'.cell? (ad320.add ((x5_1).toNat * 4)) = some (.int .i64 ((rd_T52 l0 x5_1).f0.f0)) ∧ w'.cell? ⟨(ad320.add ((x5_1).toNat * 4)).block, (ad320.add ((x5_1).toNat * 4)).off + 1, none⟩ = some (.int .i64 ((rd_T52 l0 x5_1).f0.f1)) ∧ w'.cell? ⟨(ad320.add ((x5_1).toNat * 4)).block, (ad320.add ((x5_1).toNat * 4)).off + 2, none⟩ = some (.int .i64 ((rd_T52 l0 x5_1).f0.f2)) ∧ w'.cell? ⟨(ad320.add ((x5_1).toNat * 4)).block, (ad320.add ((x5_1).toNat * 4)).off + 3, none⟩ = some (.int .i64 ((rd_T52 l0 x5_1).f1)) ∧ w'.cell? (ad321.add ((x5_1).toNat * 4)) = some (.int .i64 ((rd_T52 l1 x5_1).f0.f0)) ∧ w'.cell? ⟨(ad321.add ((x5_1).toNat * 4)).block, (ad321.add ((x5_1).toNat * 4)).off + 1, none⟩ = some (.int .i64 ((rd_T52 l1 x5_1).f0.f1)) ∧ w'.cell? ⟨(ad321.add ((x5_1).toNat * 4)).block, (ad321.add ((x5_1).toNat * 4)).off + 2, none⟩ = some (.int .i64 ((rd_T52 l1 x5_1).f0.f2)) ∧ w'.cell? ⟨(ad321.add ((x5_1).toNat * 4)).block, (ad321.add ((x5_1).toNat * 4)).off + 3, none⟩ = some (.int .i64 ((rd_T52 l1 x5_1).f1))) (ds := []) (bv_ 10 0) (by kernel_rfl) rfl rfl ⟨(clTr HB.out hw320_0 :), (clTr HB.out hw320_1 :), (clTr HB.out hw320_2 :), (clTr HB.out hw320_3 :), (clTr HB.out hw321_0 :), (clTr HB.out hw321_1 :), (clTr HB.out hw321_2 :), (clTr HB.out hw321_3 :)⟩ (fun hHeld => ?_); refine with_tabW laws_eqPieceS.tab6 laws_eqPieceS.bits6 (fun HT_ HW_ => ?_)
        generalize wr.drew = w9 at HB hx320_0 hx320_1 hx320_2 hx320_3 hx321_0 hx321_1 hx321_2 hx321_3 hHeld ⊢
        refine pu_ HT_ 0 (some 17) (bv_ 10 1) ?_
        refine pu_ HT_ 1 (some 18) (bv_ 10 3) ?_
        refine pu_ HT_ 2 (some 19) (bv_ 10 7) ?_
        refine pu_ HT_ 4 (some 21) (bv_ 10 23) ?_
        refine pu_ HT_ 5 (some 22) (bv_ 10 55) ?_
        refine pu_ HT_ 6 (some 23) (bv_ 10 119) ?_
        refine ta_ HT_ HW_ 3 (some 20) (bv_ 10 127) hHeld ?_ (hy := by rintro w' ⟨s0, s1, s2, s3, s4, s5, s6, s7⟩; go_simp; with_reducible rfl)
        refine ta_ HT_ HW_ 7 (some 24) (bv_ 10 255) hHeld ?_ (hy := by rintro w' ⟨s0, s1, s2, s3, s4, s5, s6, s7⟩; go_simp; with_reducible rfl)
        refine one_ (i := 8) (N := some 25) (bv_ 10 511) rfl rfl (one_of HT_.out (by kernel_rfl)) (by decide) (fun K hK => ?_)
        refine goes_ Try.func69 (by kernel_rfl) rfl #[.agg #[.int .i64 ((rd_T52 l0 x5_1).f0.f0), .int .i64 ((rd_T52 l0 x5_1).f0.f1), .int .i64 ((rd_T52 l0 x5_1).f0.f2), .int .i64 ((rd_T52 l0 x5_1).f1)], .agg #[.int .i64 ((rd_T52 l1 x5_1).f0.f0), .int .i64 ((rd_T52 l1 x5_1).f0.f1), .int .i64 ((rd_T52 l1 x5_1).f0.f2), .int .i64 ((rd_T52 l1 x5_1).f1)]] (by rfl) rfl rfl (by (try simp only [List.map_toArray, List.map_cons, List.map_nil]); first | done | rfl | (simp only [List.length_drop, List.length_take]; rfl)) ?_
        with_reducible refine (laws_eqPiece.calls ((rd_T52 l0 x5_1).f0.f0) ((rd_T52 l0 x5_1).f0.f1) ((rd_T52 l0 x5_1).f0.f2) ((rd_T52 l0 x5_1).f1) ((rd_T52 l1 x5_1).f0.f0) ((rd_T52 l1 x5_1).f0.f1) ((rd_T52 l1 x5_1).f0.f2) ((rd_T52 l1 x5_1).f1) true _ A7.out).mono ?_
        rintro e w10 ⟨rfl, hb⟩
        refine ⟨_, rfl, ?_⟩
        replace HB := bt_ HB hb
        (try clear hb)
        (try clear hb2)
        (try clear hk)
        (try clear hi)
        refine hK.out _ _ ⟨(clTr HB.out hw320_0 :), (clTr HB.out hw320_1 :), (clTr HB.out hw320_2 :), (clTr HB.out hw320_3 :), (clTr HB.out hw321_0 :), (clTr HB.out hw321_1 :), (clTr HB.out hw321_2 :), (clTr HB.out hw321_3 :)⟩ (fun hHeld => ?_)
        clear hK K
        refine norm_ (a' := ?_) ?_ ?_
        rotate_left
        ·show Act.put _ (some 25) _ = _
         simp only [Act.put, lstS, lstZ, lstC, i64_w, i32_w]
         rfl
        refine pu_ HT_ 9 (some 26) (bv_ 10 1023) ?_
        refine done_ (done_of HT_.out (by kernel_rfl)) ?_
        try go_wp2
        go_roundg k1
        case measure => have := HK1.out; omega
        case rel => exact ⟨(wrap64 (x5_1 + 1)), (by first | rfl | (simp; done) | (simp [*]; done) | (simp [wrap64]; done)), H', ⟨by have := HK1.out; omega⟩, bw_ HB⟩
       ·replace c8 := Bool.eq_false_iff.mpr c8
        subst c8
        have H1 : (some false) = some r := by rw [if_neg (show ¬ (false = true) by decide)] at H; exact H
        clear H
        have H := H1
        clear H1
        obtain rfl := Option.some.inj H
        try go_wp2
        replace HB := Aside0.mk (below_drew1 HB.out)
        have p320 : 0 ≤ (x5_1 : Int) := of_decide_eq_true (by first | (with_reducible assumption) | assumption)
        have q320 : x5_1 < (l0.length : Int) := of_decide_eq_true (by first | (with_reducible assumption) | assumption)
        obtain ⟨ad320, e320, hx320_0, hx320_1, hx320_2, hx320_3⟩ := at_T52 HR0.out x5_1 p320 q320
        have hw320_3 := hx320_3
        have hw320_2 := hx320_2
        have hw320_1 := hx320_1
        have hw320_0 := hx320_0
        cases e320
        replace hx320_0 := clTr HB.out hx320_0
        replace hx320_1 := clTr HB.out hx320_1
        replace hx320_2 := clTr HB.out hx320_2
        replace hx320_3 := clTr HB.out hx320_3
        replace p320 := eq_true p320
        replace q320 := eq_true q320
        have p321 : 0 ≤ (x5_1 : Int) := of_decide_eq_true (by first | (with_reducible assumption) | assumption)
        have q321 : x5_1 < (l1.length : Int) := of_decide_eq_true (by first | (with_reducible assumption) | assumption)
        obtain ⟨ad321, e321, hx321_0, hx321_1, hx321_2, hx321_3⟩ := at_T52 HR1.out x5_1 p321 q321
        have hw321_3 := hx321_3
        have hw321_2 := hx321_2
        have hw321_1 := hx321_1
        have hw321_0 := hx321_0
        cases e321
        replace hx321_0 := clTr HB.out hx321_0
        replace hx321_1 := clTr HB.out hx321_1
        replace hx321_2 := clTr HB.out hx321_2
        replace hx321_3 := clTr HB.out hx321_3
        replace p321 := eq_true p321
        replace q321 := eq_true q321
        refine start_ (n := 10) (S := fun w' => w'.cell? (ad320.add ((x5_1).toNat * 4)) = some (.int .i64 ((rd_T52 l0 x5_1).f0.f0)) ∧ w'.cell? ⟨(ad320.add ((x5_1).toNat * 4)).block, (ad320.add ((x5_1).toNat * 4)).off + 1, none⟩ = some (.int .i64 ((rd_T52 l0 x5_1).f0.f1)) ∧ w'.cell? ⟨(ad320.add ((x5_1).toNat * 4)).block, (ad320.add ((x5_1).toNat * 4)).off + 2, none⟩ = some (.int .i64 ((rd_T52 l0 x5_1).f0.f2)) ∧ w'.cell? ⟨(ad320.add ((x5_1).toNat * 4)).block, (ad320.add ((x5_1).toNat * 4)).off + 3, none⟩ = some (.int .i64 ((rd_T52 l0 x5_1).f1)) ∧ w'.cell? (ad321.add ((x5_1).toNat * 4)) = some (.int .i64 ((rd_T52 l1 x5_1).f0.f0)) ∧ w'.cell? ⟨(ad321.add ((x5_1).toNat * 4)).block, (ad321.add ((x5_1).toNat * 4)).off + 1, none⟩ = some (.int .i64 ((rd_T52 l1 x5_1).f0.f1)) ∧ w'.cell? ⟨(ad321.add ((x5_1).toNat * 4)).block, (ad321.add ((x5_1).toNat * 4)).off + 2, none⟩ = some (.int .i64 ((rd_T52 l1 x5_1).f0.f2)) ∧ w'.cell? ⟨(ad321.add ((x5_1).toNat * 4)).block, (ad321.add ((x5_1).toNat * 4)).off + 3, none⟩ = some (.int .i64 ((rd_T52 l1 x5_1).f1))) (ds := []) (bv_ 10 0) (by kernel_rfl) rfl rfl ⟨(clTr HB.out hw320_0 :), (clTr HB.out hw320_1 :), (clTr HB.out hw320_2 :), (clTr HB.out hw320_3 :), (clTr HB.out hw321_0 :), (clTr HB.out hw321_1 :), (clTr HB.out hw321_2 :), (clTr HB.out hw321_3 :)⟩ (fun hHeld => ?_); refine with_tabW laws_eqPieceS.tab6 laws_eqPieceS.bits6 (fun HT_ HW_ => ?_)
        generalize wr.drew = w11 at HB hx320_0 hx320_1 hx320_2 hx320_3 hx321_0 hx321_1 hx321_2 hx321_3 hHeld ⊢
        refine pu_ HT_ 0 (some 17) (bv_ 10 1) ?_
        refine pu_ HT_ 1 (some 18) (bv_ 10 3) ?_
        refine pu_ HT_ 2 (some 19) (bv_ 10 7) ?_
        refine pu_ HT_ 4 (some 21) (bv_ 10 23) ?_
        refine pu_ HT_ 5 (some 22) (bv_ 10 55) ?_
        refine pu_ HT_ 6 (some 23) (bv_ 10 119) ?_
        refine ta_ HT_ HW_ 3 (some 20) (bv_ 10 127) hHeld ?_ (hy := by rintro w' ⟨s0, s1, s2, s3, s4, s5, s6, s7⟩; go_simp; with_reducible rfl)
        refine ta_ HT_ HW_ 7 (some 24) (bv_ 10 255) hHeld ?_ (hy := by rintro w' ⟨s0, s1, s2, s3, s4, s5, s6, s7⟩; go_simp; with_reducible rfl)
        refine one_ (i := 8) (N := some 25) (bv_ 10 511) rfl rfl (one_of HT_.out (by kernel_rfl)) (by decide) (fun K hK => ?_)
        refine goes_ Try.func69 (by kernel_rfl) rfl #[.agg #[.int .i64 ((rd_T52 l0 x5_1).f0.f0), .int .i64 ((rd_T52 l0 x5_1).f0.f1), .int .i64 ((rd_T52 l0 x5_1).f0.f2), .int .i64 ((rd_T52 l0 x5_1).f1)], .agg #[.int .i64 ((rd_T52 l1 x5_1).f0.f0), .int .i64 ((rd_T52 l1 x5_1).f0.f1), .int .i64 ((rd_T52 l1 x5_1).f0.f2), .int .i64 ((rd_T52 l1 x5_1).f1)]] (by rfl) rfl rfl (by (try simp only [List.map_toArray, List.map_cons, List.map_nil]); first | done | rfl | (simp only [List.length_drop, List.length_take]; rfl)) ?_
        with_reducible refine (laws_eqPiece.calls ((rd_T52 l0 x5_1).f0.f0) ((rd_T52 l0 x5_1).f0.f1) ((rd_T52 l0 x5_1).f0.f2) ((rd_T52 l0 x5_1).f1) ((rd_T52 l1 x5_1).f0.f0) ((rd_T52 l1 x5_1).f0.f1) ((rd_T52 l1 x5_1).f0.f2) ((rd_T52 l1 x5_1).f1) false _ A7.out).mono ?_
        rintro e w12 ⟨rfl, hb⟩
        refine ⟨_, rfl, ?_⟩
        replace HB := bt_ HB hb
        (try clear hb)
        (try clear hb2)
        (try clear hk)
        (try clear hi)
        refine hK.out _ _ ⟨(clTr HB.out hw320_0 :), (clTr HB.out hw320_1 :), (clTr HB.out hw320_2 :), (clTr HB.out hw320_3 :), (clTr HB.out hw321_0 :), (clTr HB.out hw321_1 :), (clTr HB.out hw321_2 :), (clTr HB.out hw321_3 :)⟩ (fun hHeld => ?_)
        clear hK K
        refine norm_ (a' := ?_) ?_ ?_
        rotate_left
        ·show Act.put _ (some 25) _ = _
         simp only [Act.put, lstS, lstZ, lstC, i64_w, i32_w]
         rfl
        refine pu_ HT_ 9 (some 26) (bv_ 10 1023) ?_
        refine done_ (done_of HT_.out (by kernel_rfl)) ?_
        try go_wp2
        go_ret
        exact ⟨by first | rfl | (simp [errW_none, errW_some] <;> rfl) | (simp [*, errW_none, errW_some] <;> rfl), by repeat (first | (with_reducible first | exact HB.out | apply below_alloc | apply pw_below_drewN | apply below_drew1) | exact HB.out)⟩
      ·rw [if_neg c6] at H
       exact absurd H (by simp)
     ·rw [if_neg c5] at H
      exact absurd H (by simp)
    ·rw [if_neg c4] at H
     have c4b0 : decide (x5_1 < (l0.length : Int)) = false := decide_eq_false c4
     clear c4
     obtain rfl := Option.some.inj H
     go_wp2
     go_ret
     exact ⟨by first | rfl | (simp [errW_none, errW_some] <;> rfl) | (simp [*, errW_none, errW_some] <;> rfl), by repeat (first | (with_reducible first | exact HB.out | apply below_alloc | apply pw_below_drewN | apply below_drew1) | exact HB.out)⟩
 ·rw [if_neg c3] at H
  have c3b0 : ((l0.length : Int) == (l1.length : Int)) = false := beq_eq_false_iff_ne.mpr c3
  have c3b1 : ((l0.length : Int) != (l1.length : Int)) = true := bne_iff_ne.mpr c3
  have c3b2 : (l0.length == l1.length) = false := by first | simpa using c3 | (simp at c3 ⊢; omega)
  obtain rfl := Option.some.inj H
  go_enter Try.func35, Try.ntmps35
  go_wp2
  go_ret
  exact ⟨by first | rfl | (simp [errW_none, errW_some] <;> rfl) | (simp [*, errW_none, errW_some] <;> rfl), by repeat (first | (with_reducible first | exact HB.out | apply below_alloc | apply pw_below_drewN | apply below_drew1) | exact HB.out)⟩
/-! ### laws_eqMeasure: function 11 -/
def laws_eqMeasure.f (k : Nat) (a0_0 : Int) (a0_1 : Int) (a0_2 : Int) (l0_3 : List (S52)) (a1_0 : Int) (a1_1 : Int) (a1_2 : Int) (l1_3 : List (S52)) : Option (Bool) := (laws_eqBall.f a0_0 a0_1 a0_2 a1_0 a1_1 a1_2).bind fun t325 => (if t325 = true then ((laws_eqPieceS.f k l0_3 l1_3).bind fun t326 => (if t326 = true then (some true) else (some false))) else (some false))
set_option maxHeartbeats 8000000 in
set_option maxRecDepth 100000 in
theorem laws_eqMeasure.calls (k : Nat) (a0_0 : Int) (a0_1 : Int) (a0_2 : Int) (A0_3 : Option Addr) (c0_3 : Nat) (l0_3 : List (S52)) (a1_0 : Int) (a1_1 : Int) (a1_2 : Int) (A1_3 : Option Addr) (c1_3 : Nat) (l1_3 : List (S52)) (r : Bool) (w : World) (hr0_3 : Kd.C k52 w A0_3 l0_3.length l0_3) (hc0_3 : l0_3.length ≤ c0_3) (hr1_3 : Kd.C k52 w A1_3 l1_3.length l1_3) (hc1_3 : l1_3.length ≤ c1_3) (h : laws_eqMeasure.f k a0_0 a0_1 a0_2 l0_3 a1_0 a1_1 a1_2 l1_3 = some r) :
  Calls Try.prog 11 #[.agg #[.int .i64 a0_0, .int .i64 a0_1, .int .i64 a0_2, .slice A0_3 l0_3.length c0_3], .agg #[.int .i64 a1_0, .int .i64 a1_1, .int .i64 a1_2, .slice A1_3 l1_3.length c1_3]] w fun e w' => e = .returned (.bool r) ∧ Below w.heap.size w w' := by
 have hu28 := Try.underlying28
 have hu25 := Try.underlying25
 have HR0_3 := Aside0.mk hr0_3
 have HC0_3 := Aside0.mk hc0_3
 clear hr0_3 hc0_3
 have HR1_3 := Aside0.mk hr1_3
 have HC1_3 := Aside0.mk hc1_3
 clear hr1_3 hc1_3
 have HB := Aside0.mk (Below.refl w.heap.size w)
 have H : ((laws_eqBall.f a0_0 a0_1 a0_2 a1_0 a1_1 a1_2).bind fun t325 => (if t325 = true then ((laws_eqPieceS.f k l0_3 l1_3).bind fun t326 => (if t326 = true then (some true) else (some false))) else (some false))) = some r := h
 clear h
 replace H := Option.bind_eq_some_iff.mp H
 obtain ⟨t325, A30, H⟩ := H
 have A3 := Aside0.mk A30
 clear A30
 by_cases c4 : t325 = true
 ·subst c4
  have H1 : ((laws_eqPieceS.f k l0_3 l1_3).bind fun t326 => (if t326 = true then (some true) else (some false))) = some r := by rw [if_pos rfl] at H; exact H
  clear H
  have H := H1
  clear H1
  replace H := Option.bind_eq_some_iff.mp H
  obtain ⟨t326, A50, H⟩ := H
  have A5 := Aside0.mk A50
  clear A50
  by_cases c6 : t326 = true
  ·subst c6
   have H1 : (some true) = some r := by rw [if_pos rfl] at H; exact H
   clear H
   have H := H1
   clear H1
   obtain rfl := Option.some.inj H
   go_enter Try.func11, Try.ntmps11
   go_wp2_with (first | ((with_reducible refine gate_dst (N := 2) rfl ?_); refine bx_ 2 #[.int .i64 a0_0, .int .i64 a0_1, .int .i64 a0_2, .slice A0_3 l0_3.length c0_3] 28 ?_; intro gb323 hg w7 hbox hb; have BK323 := Aside0.mk (hbox); have GW323 := bs_ HB hg; have GE323 := bs_ HB hg; replace HB := bt_ HB hb; clear hb hbox hg) | ((with_reducible refine gate_dst (N := 3) rfl ?_); refine bx_ 3 #[.int .i64 a1_0, .int .i64 a1_1, .int .i64 a1_2, .slice A1_3 l1_3.length c1_3] 28 ?_; intro gb324 hg w8 hbox hb; have BK324 := Aside0.mk (hbox); have GW324 := bs_ HB hg; have GE324 := bs_ HB hg; have NB323_324 := bm_ BK323 hg; have NB324_323 := bn_ BK323 hg; replace BK323 := bb_ BK323 hb; replace HB := bt_ HB hb; clear hb hbox hg; have hnb9 := NB323_324.out; have hnc9 := NB324_323.out; have hcz10_0 : w8.cell? ⟨gb323, 0, none⟩ = some (.int .i64 a0_0) := cz_ BK323 0; have hcz10_1 : w8.cell? ⟨gb323, 1, none⟩ = some (.int .i64 a0_1) := cz_ BK323 1; have hcz10_2 : w8.cell? ⟨gb323, 2, none⟩ = some (.int .i64 a0_2) := cz_ BK323 2; have hcz10_3 : w8.cell? ⟨gb323, 3, none⟩ = some (.slice A0_3 l0_3.length c0_3) := cz_ BK323 3; have hfz10_0 := fz_ BK323 0; have hfz10_1 := fz_ BK323 1; have hfz10_2 := fz_ BK323 2; have hfz10_3 := fz_ BK323 3; have hcz11_0 : w8.cell? ⟨gb324, 0, none⟩ = some (.int .i64 a1_0) := cz_ BK324 0; have hcz11_1 : w8.cell? ⟨gb324, 1, none⟩ = some (.int .i64 a1_1) := cz_ BK324 1; have hcz11_2 : w8.cell? ⟨gb324, 2, none⟩ = some (.int .i64 a1_2) := cz_ BK324 2; have hcz11_3 : w8.cell? ⟨gb324, 3, none⟩ = some (.slice A1_3 l1_3.length c1_3) := cz_ BK324 3; have hfz11_0 := fz_ BK324 0; have hfz11_1 := fz_ BK324 1; have hfz11_2 := fz_ BK324 2; have hfz11_3 := fz_ BK324 3) | ((with_reducible refine gate_callee (f := 34) rfl ?_); refine ge_ 9 Try.func34 #[.agg #[.int .i64 a0_0, .int .i64 a0_1, .int .i64 a0_2], .agg #[.int .i64 a1_0, .int .i64 a1_1, .int .i64 a1_2]] ?_; (with_reducible refine (laws_eqBall.calls a0_0 a0_1 a0_2 a1_0 a1_1 a1_2 true _ A3.out).mono ?_); rintro e w12 ⟨rfl, hb⟩; refine ⟨_, rfl, ?_⟩; replace BK323 := bb_ BK323 hb; replace BK324 := bb_ BK324 hb; replace HB := bt_ HB hb; (try clear hb); (try clear hb2); (try clear hk); (try clear hi); have hcz13_0 : w12.cell? ⟨gb323, 0, none⟩ = some (.int .i64 a0_0) := cz_ BK323 0; have hcz13_1 : w12.cell? ⟨gb323, 1, none⟩ = some (.int .i64 a0_1) := cz_ BK323 1; have hcz13_2 : w12.cell? ⟨gb323, 2, none⟩ = some (.int .i64 a0_2) := cz_ BK323 2; have hcz13_3 : w12.cell? ⟨gb323, 3, none⟩ = some (.slice A0_3 l0_3.length c0_3) := cz_ BK323 3; have hfz13_0 := fz_ BK323 0; have hfz13_1 := fz_ BK323 1; have hfz13_2 := fz_ BK323 2; have hfz13_3 := fz_ BK323 3; have hcz14_0 : w12.cell? ⟨gb324, 0, none⟩ = some (.int .i64 a1_0) := cz_ BK324 0; have hcz14_1 : w12.cell? ⟨gb324, 1, none⟩ = some (.int .i64 a1_1) := cz_ BK324 1; have hcz14_2 : w12.cell? ⟨gb324, 2, none⟩ = some (.int .i64 a1_2) := cz_ BK324 2; have hcz14_3 : w12.cell? ⟨gb324, 3, none⟩ = some (.slice A1_3 l1_3.length c1_3) := cz_ BK324 3; have hfz14_0 := fz_ BK324 0; have hfz14_1 := fz_ BK324 1; have hfz14_2 := fz_ BK324 2; have hfz14_3 := fz_ BK324 3) | ((with_reducible refine gate_callee (f := 35) rfl ?_); refine ge_ 15 Try.func35 #[.slice A0_3 l0_3.length c0_3, .slice A1_3 l1_3.length c1_3] ?_; (with_reducible refine (laws_eqPieceS.calls k _ _ l0_3 _ _ l1_3 true _ ?side1 ?side2 ?side3 ?side4 A5.out).mono ?_); (case side1 => repeat (first | exact (Kd.C_below HR0_3.out HB.out) | (with_reducible refine Kd.C_alloc ?_ _) | (with_reducible refine Kd.C_drewN ?_ _) | (with_reducible refine Kd.C_drew ?_))); (case side2 => exact HC0_3.out); (case side3 => repeat (first | exact (Kd.C_below HR1_3.out HB.out) | (with_reducible refine Kd.C_alloc ?_ _) | (with_reducible refine Kd.C_drewN ?_ _) | (with_reducible refine Kd.C_drew ?_))); (case side4 => exact HC1_3.out); rintro e w15 ⟨rfl, hb⟩; refine ⟨_, rfl, ?_⟩; replace BK323 := bb_ BK323 hb; replace BK324 := bb_ BK324 hb; replace HB := bt_ HB hb; (try clear hb); (try clear hb2); (try clear hk); (try clear hi)))
   go_ret
   exact ⟨by first | rfl | (simp [errW_none, errW_some] <;> rfl) | (simp [*, errW_none, errW_some] <;> rfl), by repeat (first | (with_reducible first | exact HB.out | apply below_alloc | apply pw_below_drewN | apply below_drew1 | refine below_set ?_ GE323.out | refine below_set ?_ GE324.out) | exact HB.out)⟩
  ·replace c6 := Bool.eq_false_iff.mpr c6
   subst c6
   have H1 : (some false) = some r := by rw [if_neg (show ¬ (false = true) by decide)] at H; exact H
   clear H
   have H := H1
   clear H1
   obtain rfl := Option.some.inj H
   go_enter Try.func11, Try.ntmps11
   go_wp2_with (first | ((with_reducible refine gate_dst (N := 2) rfl ?_); refine bx_ 2 #[.int .i64 a0_0, .int .i64 a0_1, .int .i64 a0_2, .slice A0_3 l0_3.length c0_3] 28 ?_; intro gb323 hg w16 hbox hb; have BK323 := Aside0.mk (hbox); have GW323 := bs_ HB hg; have GE323 := bs_ HB hg; replace HB := bt_ HB hb; clear hb hbox hg) | ((with_reducible refine gate_dst (N := 3) rfl ?_); refine bx_ 3 #[.int .i64 a1_0, .int .i64 a1_1, .int .i64 a1_2, .slice A1_3 l1_3.length c1_3] 28 ?_; intro gb324 hg w17 hbox hb; have BK324 := Aside0.mk (hbox); have GW324 := bs_ HB hg; have GE324 := bs_ HB hg; have NB323_324 := bm_ BK323 hg; have NB324_323 := bn_ BK323 hg; replace BK323 := bb_ BK323 hb; replace HB := bt_ HB hb; clear hb hbox hg; have hnb18 := NB323_324.out; have hnc18 := NB324_323.out; have hcz19_0 : w17.cell? ⟨gb323, 0, none⟩ = some (.int .i64 a0_0) := cz_ BK323 0; have hcz19_1 : w17.cell? ⟨gb323, 1, none⟩ = some (.int .i64 a0_1) := cz_ BK323 1; have hcz19_2 : w17.cell? ⟨gb323, 2, none⟩ = some (.int .i64 a0_2) := cz_ BK323 2; have hcz19_3 : w17.cell? ⟨gb323, 3, none⟩ = some (.slice A0_3 l0_3.length c0_3) := cz_ BK323 3; have hfz19_0 := fz_ BK323 0; have hfz19_1 := fz_ BK323 1; have hfz19_2 := fz_ BK323 2; have hfz19_3 := fz_ BK323 3; have hcz20_0 : w17.cell? ⟨gb324, 0, none⟩ = some (.int .i64 a1_0) := cz_ BK324 0; have hcz20_1 : w17.cell? ⟨gb324, 1, none⟩ = some (.int .i64 a1_1) := cz_ BK324 1; have hcz20_2 : w17.cell? ⟨gb324, 2, none⟩ = some (.int .i64 a1_2) := cz_ BK324 2; have hcz20_3 : w17.cell? ⟨gb324, 3, none⟩ = some (.slice A1_3 l1_3.length c1_3) := cz_ BK324 3; have hfz20_0 := fz_ BK324 0; have hfz20_1 := fz_ BK324 1; have hfz20_2 := fz_ BK324 2; have hfz20_3 := fz_ BK324 3) | ((with_reducible refine gate_callee (f := 34) rfl ?_); refine ge_ 9 Try.func34 #[.agg #[.int .i64 a0_0, .int .i64 a0_1, .int .i64 a0_2], .agg #[.int .i64 a1_0, .int .i64 a1_1, .int .i64 a1_2]] ?_; (with_reducible refine (laws_eqBall.calls a0_0 a0_1 a0_2 a1_0 a1_1 a1_2 true _ A3.out).mono ?_); rintro e w21 ⟨rfl, hb⟩; refine ⟨_, rfl, ?_⟩; replace BK323 := bb_ BK323 hb; replace BK324 := bb_ BK324 hb; replace HB := bt_ HB hb; (try clear hb); (try clear hb2); (try clear hk); (try clear hi); have hcz22_0 : w21.cell? ⟨gb323, 0, none⟩ = some (.int .i64 a0_0) := cz_ BK323 0; have hcz22_1 : w21.cell? ⟨gb323, 1, none⟩ = some (.int .i64 a0_1) := cz_ BK323 1; have hcz22_2 : w21.cell? ⟨gb323, 2, none⟩ = some (.int .i64 a0_2) := cz_ BK323 2; have hcz22_3 : w21.cell? ⟨gb323, 3, none⟩ = some (.slice A0_3 l0_3.length c0_3) := cz_ BK323 3; have hfz22_0 := fz_ BK323 0; have hfz22_1 := fz_ BK323 1; have hfz22_2 := fz_ BK323 2; have hfz22_3 := fz_ BK323 3; have hcz23_0 : w21.cell? ⟨gb324, 0, none⟩ = some (.int .i64 a1_0) := cz_ BK324 0; have hcz23_1 : w21.cell? ⟨gb324, 1, none⟩ = some (.int .i64 a1_1) := cz_ BK324 1; have hcz23_2 : w21.cell? ⟨gb324, 2, none⟩ = some (.int .i64 a1_2) := cz_ BK324 2; have hcz23_3 : w21.cell? ⟨gb324, 3, none⟩ = some (.slice A1_3 l1_3.length c1_3) := cz_ BK324 3; have hfz23_0 := fz_ BK324 0; have hfz23_1 := fz_ BK324 1; have hfz23_2 := fz_ BK324 2; have hfz23_3 := fz_ BK324 3) | ((with_reducible refine gate_callee (f := 35) rfl ?_); refine ge_ 15 Try.func35 #[.slice A0_3 l0_3.length c0_3, .slice A1_3 l1_3.length c1_3] ?_; (with_reducible refine (laws_eqPieceS.calls k _ _ l0_3 _ _ l1_3 false _ ?side1 ?side2 ?side3 ?side4 A5.out).mono ?_); (case side1 => repeat (first | exact (Kd.C_below HR0_3.out HB.out) | (with_reducible refine Kd.C_alloc ?_ _) | (with_reducible refine Kd.C_drewN ?_ _) | (with_reducible refine Kd.C_drew ?_))); (case side2 => exact HC0_3.out); (case side3 => repeat (first | exact (Kd.C_below HR1_3.out HB.out) | (with_reducible refine Kd.C_alloc ?_ _) | (with_reducible refine Kd.C_drewN ?_ _) | (with_reducible refine Kd.C_drew ?_))); (case side4 => exact HC1_3.out); rintro e w24 ⟨rfl, hb⟩; refine ⟨_, rfl, ?_⟩; replace BK323 := bb_ BK323 hb; replace BK324 := bb_ BK324 hb; replace HB := bt_ HB hb; (try clear hb); (try clear hb2); (try clear hk); (try clear hi)))
   go_ret
   exact ⟨by first | rfl | (simp [errW_none, errW_some] <;> rfl) | (simp [*, errW_none, errW_some] <;> rfl), by repeat (first | (with_reducible first | exact HB.out | apply below_alloc | apply pw_below_drewN | apply below_drew1 | refine below_set ?_ GE323.out | refine below_set ?_ GE324.out) | exact HB.out)⟩
 ·replace c4 := Bool.eq_false_iff.mpr c4
  subst c4
  have H1 : (some false) = some r := by rw [if_neg (show ¬ (false = true) by decide)] at H; exact H
  clear H
  have H := H1
  clear H1
  obtain rfl := Option.some.inj H
  go_enter Try.func11, Try.ntmps11
  go_wp2_with (first | ((with_reducible refine gate_dst (N := 2) rfl ?_); refine bx_ 2 #[.int .i64 a0_0, .int .i64 a0_1, .int .i64 a0_2, .slice A0_3 l0_3.length c0_3] 28 ?_; intro gb323 hg w25 hbox hb; have BK323 := Aside0.mk (hbox); have GW323 := bs_ HB hg; have GE323 := bs_ HB hg; replace HB := bt_ HB hb; clear hb hbox hg) | ((with_reducible refine gate_dst (N := 3) rfl ?_); refine bx_ 3 #[.int .i64 a1_0, .int .i64 a1_1, .int .i64 a1_2, .slice A1_3 l1_3.length c1_3] 28 ?_; intro gb324 hg w26 hbox hb; have BK324 := Aside0.mk (hbox); have GW324 := bs_ HB hg; have GE324 := bs_ HB hg; have NB323_324 := bm_ BK323 hg; have NB324_323 := bn_ BK323 hg; replace BK323 := bb_ BK323 hb; replace HB := bt_ HB hb; clear hb hbox hg; have hnb27 := NB323_324.out; have hnc27 := NB324_323.out; have hcz28_0 : w26.cell? ⟨gb323, 0, none⟩ = some (.int .i64 a0_0) := cz_ BK323 0; have hcz28_1 : w26.cell? ⟨gb323, 1, none⟩ = some (.int .i64 a0_1) := cz_ BK323 1; have hcz28_2 : w26.cell? ⟨gb323, 2, none⟩ = some (.int .i64 a0_2) := cz_ BK323 2; have hcz28_3 : w26.cell? ⟨gb323, 3, none⟩ = some (.slice A0_3 l0_3.length c0_3) := cz_ BK323 3; have hfz28_0 := fz_ BK323 0; have hfz28_1 := fz_ BK323 1; have hfz28_2 := fz_ BK323 2; have hfz28_3 := fz_ BK323 3; have hcz29_0 : w26.cell? ⟨gb324, 0, none⟩ = some (.int .i64 a1_0) := cz_ BK324 0; have hcz29_1 : w26.cell? ⟨gb324, 1, none⟩ = some (.int .i64 a1_1) := cz_ BK324 1; have hcz29_2 : w26.cell? ⟨gb324, 2, none⟩ = some (.int .i64 a1_2) := cz_ BK324 2; have hcz29_3 : w26.cell? ⟨gb324, 3, none⟩ = some (.slice A1_3 l1_3.length c1_3) := cz_ BK324 3; have hfz29_0 := fz_ BK324 0; have hfz29_1 := fz_ BK324 1; have hfz29_2 := fz_ BK324 2; have hfz29_3 := fz_ BK324 3) | ((with_reducible refine gate_callee (f := 34) rfl ?_); refine ge_ 9 Try.func34 #[.agg #[.int .i64 a0_0, .int .i64 a0_1, .int .i64 a0_2], .agg #[.int .i64 a1_0, .int .i64 a1_1, .int .i64 a1_2]] ?_; (with_reducible refine (laws_eqBall.calls a0_0 a0_1 a0_2 a1_0 a1_1 a1_2 false _ A3.out).mono ?_); rintro e w30 ⟨rfl, hb⟩; refine ⟨_, rfl, ?_⟩; replace BK323 := bb_ BK323 hb; replace BK324 := bb_ BK324 hb; replace HB := bt_ HB hb; (try clear hb); (try clear hb2); (try clear hk); (try clear hi)))
  go_ret
  exact ⟨by first | rfl | (simp [errW_none, errW_some] <;> rfl) | (simp [*, errW_none, errW_some] <;> rfl), by repeat (first | (with_reducible first | exact HB.out | apply below_alloc | apply pw_below_drewN | apply below_drew1 | refine below_set ?_ GE323.out | refine below_set ?_ GE324.out) | exact HB.out)⟩
end Go.Proofs.Ytbldceikdajdlaa.QC
