-- Written by a program of this session out of Lean's own print of the loaded program; Lean checks it.
import Derived.Test.YtojpcbbmbnmchaaQCx4
import Derived.Test.YtojpcbbmbnmchaaQCx68
import Derived.Test.YtojpcbbmbnmchaaQCx1
namespace Go.Proofs.Ytojpcbbmbnmchaa.QC
open Go.RowKit Go.Proofs.YtojpcbbmbnmchaaW.PrintWords Go.Proofs.YtojpcbbmbnmchaaW.PrintLast Go.Proofs.YtojpcbbmbnmchaaW.PrintMore
attribute [local go_sem] isSome_setCell max2_int min2_int max_two min_two max_three min_three max_four min_four   -- for this text's walks alone
set_option linter.unusedVariables false
set_option linter.unusedSimpArgs false

/-! ### impl_neighbour: function 116 -/
def impl_neighbour.f (k : Nat) (a0 : Int) (a1_0 : Int) (a1_1 : Int) (a1_2 : Int) (a2 : Int) : Option (Int × Int × Int × Bool) := if a2 = 0 then ((impl_parent.f k a0 a1_0 a1_1 a1_2).bind fun bt523 => (some (bt523.1, bt523.2.1, bt523.2.2.1, bt523.2.2.2))) else ((impl_child.f k a0 a1_0 a1_1 a1_2 (wrap64 (a2 - 1))).bind fun bt527 => (some (bt527.1, bt527.2.1, bt527.2.2.1, bt527.2.2.2)))
set_option maxHeartbeats 8000000 in
set_option maxRecDepth 100000 in
theorem impl_neighbour.calls (k : Nat) (a0 : Int) (a1_0 : Int) (a1_1 : Int) (a1_2 : Int) (a2 : Int) (r1 : Int) (r2 : Int) (r3 : Int) (r4 : Bool) (w : World) (h : impl_neighbour.f k a0 a1_0 a1_1 a1_2 a2 = some (r1, r2, r3, r4)) :
  Calls Try.prog 116 #[.int .i64 a0, .agg #[.int .i64 a1_0, .int .i64 a1_1, .int .i64 a1_2], .int .i64 a2] w fun e w' => e = .returned (.tuple #[.agg #[.int .i64 r1, .int .i64 r2, .int .i64 r3], .bool r4]) ∧ Below w.heap.size w w' := by
 have hu28 := Try.underlying28
 have HB := Aside0.mk (Below.refl w.heap.size w)
 have H : (if a2 = 0 then ((impl_parent.f k a0 a1_0 a1_1 a1_2).bind fun bt523 => (some (bt523.1, bt523.2.1, bt523.2.2.1, bt523.2.2.2))) else ((impl_child.f k a0 a1_0 a1_1 a1_2 (wrap64 (a2 - 1))).bind fun bt527 => (some (bt527.1, bt527.2.1, bt527.2.2.1, bt527.2.2.2)))) = some (r1, r2, r3, r4) := h
 clear h
 by_cases c4 : a2 = 0
 ·rw [if_pos c4] at H
  have c4b0 : (a2 == 0) = true := beq_iff_eq.mpr c4
  have c4b1 : (a2 != 0) = false := bne_eq_false_iff_eq.mpr c4
  clear c4
  replace H := Option.bind_eq_some_iff.mp H
  obtain ⟨⟨t523, t524, t525, t526⟩, A50, H⟩ := H
  have A5 := Aside0.mk A50
  clear A50
  simp only [Option.some.injEq, Prod.mk.injEq] at H
  obtain ⟨rfl, rfl, rfl, rfl⟩ := H
  go_enter Try.func116, Try.ntmps116
  go_wp2_with (first | ((with_reducible refine gate_dst (N := 4) rfl ?_); refine bx_ 4 #[.int .i64 a1_0, .int .i64 a1_1, .int .i64 a1_2] 28 ?_; intro gb521 hg w6 hbox hb; have BK521 := Aside0.mk (hbox); have GW521 := bs_ HB hg; have GE521 := bs_ HB hg; replace HB := bt_ HB hb; clear hb hbox hg) | ((with_reducible refine gate_dst (N := 6) rfl ?_); refine bx_ 6 #[.int .i64 0, .int .i64 0, .int .i64 0] 28 ?_; intro gb522 hg w7 hbox hb; have BK522 := Aside0.mk (hbox); have GW522 := bs_ HB hg; have GE522 := bs_ HB hg; have NB521_522 := bm_ BK521 hg; have NB522_521 := bn_ BK521 hg; replace BK521 := bb_ BK521 hb; replace HB := bt_ HB hb; clear hb hbox hg; have hnb8 := NB521_522.out; have hnc8 := NB522_521.out; have hcz9_0 : w7.cell? ⟨gb521, 0, none⟩ = some (.int .i64 a1_0) := (blk_cell BK521.out 0).trans rfl; have hcz9_1 : w7.cell? ⟨gb521, 1, none⟩ = some (.int .i64 a1_1) := (blk_cell BK521.out 1).trans rfl; have hcz9_2 : w7.cell? ⟨gb521, 2, none⟩ = some (.int .i64 a1_2) := (blk_cell BK521.out 2).trans rfl; have hfz9_0 := blk_frozen BK521.out 0; have hfz9_1 := blk_frozen BK521.out 1; have hfz9_2 := blk_frozen BK521.out 2) | ((with_reducible refine gate_callee (f := 120) rfl ?_); refine goesL_ (some 12) rfl rfl Try.func120 (by kernel_rfl) rfl #[.int .i64 a0, .agg #[.int .i64 a1_0, .int .i64 a1_1, .int .i64 a1_2]] rfl (by (try simp only [List.map_toArray, List.map_cons, List.map_nil]); first | done | rfl | (simp only [List.length_drop, List.length_take]; rfl)) ?_; (with_reducible refine (impl_parent.calls k a0 a1_0 a1_1 a1_2 t523 t524 t525 t526 _ A5.out).mono ?_); rintro e w10 ⟨rfl, hb⟩; refine ⟨_, rfl, ?_⟩; replace BK521 := bb_ BK521 hb; replace BK522 := bb_ BK522 hb; replace HB := bt_ HB hb; (try clear hb); (try clear hb2); (try clear hk); (try clear hi); have hcz11_0 : w10.cell? ⟨gb522, 0, none⟩ = some (.int .i64 0) := (blk_cell BK522.out 0).trans rfl; have hcz11_1 : w10.cell? ⟨gb522, 1, none⟩ = some (.int .i64 0) := (blk_cell BK522.out 1).trans rfl; have hcz11_2 : w10.cell? ⟨gb522, 2, none⟩ = some (.int .i64 0) := (blk_cell BK522.out 2).trans rfl; have hfz11_0 := blk_frozen BK522.out 0; have hfz11_1 := blk_frozen BK522.out 1; have hfz11_2 := blk_frozen BK522.out 2))
  refine bodyPost_ret (results_ct rfl _ _ gb522 28 #[.int .i64 t523, .int .i64 t524, .int .i64 t525] (0, 0) _ rfl (by (with_reducible repeat first | apply blk_drewN | apply blk_drew | apply blk_alloc); refine blk_put (cs := #[.int .i64 t523, .int .i64 t524, .int .i64 0]) ?_ 2 _ rfl; (with_reducible repeat first | apply blk_drewN | apply blk_drew | apply blk_alloc); refine blk_put (cs := #[.int .i64 t523, .int .i64 0, .int .i64 0]) ?_ 1 _ rfl; (with_reducible repeat first | apply blk_drewN | apply blk_drew | apply blk_alloc); refine blk_put (cs := #[.int .i64 0, .int .i64 0, .int .i64 0]) ?_ 0 _ rfl; (with_reducible repeat first | apply blk_drewN | apply blk_drew | apply blk_alloc); exact BK522.out) Try.underlying28 rfl (by kernel_rfl)) rfl ?_
  exact ⟨by first | rfl | (simp [errW_none, errW_some] <;> rfl) | (simp [*, errW_none, errW_some] <;> rfl), by repeat (first | (with_reducible first | exact HB.out | apply below_alloc | apply pw_below_drewN | apply below_drew1 | refine below_set ?_ GE521.out | refine below_set ?_ GE522.out) | exact HB.out)⟩
 ·rw [if_neg c4] at H
  have c4b0 : (a2 == 0) = false := beq_eq_false_iff_ne.mpr c4
  have c4b1 : (a2 != 0) = true := bne_iff_ne.mpr c4
  replace H := Option.bind_eq_some_iff.mp H
  obtain ⟨⟨t527, t528, t529, t530⟩, A120, H⟩ := H
  have A12 := Aside0.mk A120
  clear A120
  simp only [Option.some.injEq, Prod.mk.injEq] at H
  obtain ⟨rfl, rfl, rfl, rfl⟩ := H
  go_enter Try.func116, Try.ntmps116
  go_wp2_with (first | ((with_reducible refine gate_dst (N := 4) rfl ?_); refine bx_ 4 #[.int .i64 a1_0, .int .i64 a1_1, .int .i64 a1_2] 28 ?_; intro gb521 hg w13 hbox hb; have BK521 := Aside0.mk (hbox); have GW521 := bs_ HB hg; have GE521 := bs_ HB hg; replace HB := bt_ HB hb; clear hb hbox hg) | ((with_reducible refine gate_dst (N := 6) rfl ?_); refine bx_ 6 #[.int .i64 0, .int .i64 0, .int .i64 0] 28 ?_; intro gb522 hg w14 hbox hb; have BK522 := Aside0.mk (hbox); have GW522 := bs_ HB hg; have GE522 := bs_ HB hg; have NB521_522 := bm_ BK521 hg; have NB522_521 := bn_ BK521 hg; replace BK521 := bb_ BK521 hb; replace HB := bt_ HB hb; clear hb hbox hg; have hnb15 := NB521_522.out; have hnc15 := NB522_521.out; have hcz16_0 : w14.cell? ⟨gb521, 0, none⟩ = some (.int .i64 a1_0) := (blk_cell BK521.out 0).trans rfl; have hcz16_1 : w14.cell? ⟨gb521, 1, none⟩ = some (.int .i64 a1_1) := (blk_cell BK521.out 1).trans rfl; have hcz16_2 : w14.cell? ⟨gb521, 2, none⟩ = some (.int .i64 a1_2) := (blk_cell BK521.out 2).trans rfl; have hfz16_0 := blk_frozen BK521.out 0; have hfz16_1 := blk_frozen BK521.out 1; have hfz16_2 := blk_frozen BK521.out 2) | ((with_reducible refine gate_callee (f := 121) rfl ?_); refine goesL_ (some 19) rfl rfl Try.func121 (by kernel_rfl) rfl #[.int .i64 a0, .agg #[.int .i64 a1_0, .int .i64 a1_1, .int .i64 a1_2], .int .i64 (wrap64 (a2 - 1))] rfl (by (try simp only [List.map_toArray, List.map_cons, List.map_nil]); first | done | rfl | (simp only [List.length_drop, List.length_take]; rfl)) ?_; (with_reducible refine (impl_child.calls k a0 a1_0 a1_1 a1_2 (wrap64 (a2 - 1)) t527 t528 t529 t530 _ A12.out).mono ?_); rintro e w17 ⟨rfl, hb⟩; refine ⟨_, rfl, ?_⟩; replace BK521 := bb_ BK521 hb; replace BK522 := bb_ BK522 hb; replace HB := bt_ HB hb; (try clear hb); (try clear hb2); (try clear hk); (try clear hi); have hcz18_0 : w17.cell? ⟨gb522, 0, none⟩ = some (.int .i64 0) := (blk_cell BK522.out 0).trans rfl; have hcz18_1 : w17.cell? ⟨gb522, 1, none⟩ = some (.int .i64 0) := (blk_cell BK522.out 1).trans rfl; have hcz18_2 : w17.cell? ⟨gb522, 2, none⟩ = some (.int .i64 0) := (blk_cell BK522.out 2).trans rfl; have hfz18_0 := blk_frozen BK522.out 0; have hfz18_1 := blk_frozen BK522.out 1; have hfz18_2 := blk_frozen BK522.out 2))
  refine bodyPost_ret (results_ct rfl _ _ gb522 28 #[.int .i64 t527, .int .i64 t528, .int .i64 t529] (0, 0) _ rfl (by (with_reducible repeat first | apply blk_drewN | apply blk_drew | apply blk_alloc); refine blk_put (cs := #[.int .i64 t527, .int .i64 t528, .int .i64 0]) ?_ 2 _ rfl; (with_reducible repeat first | apply blk_drewN | apply blk_drew | apply blk_alloc); refine blk_put (cs := #[.int .i64 t527, .int .i64 0, .int .i64 0]) ?_ 1 _ rfl; (with_reducible repeat first | apply blk_drewN | apply blk_drew | apply blk_alloc); refine blk_put (cs := #[.int .i64 0, .int .i64 0, .int .i64 0]) ?_ 0 _ rfl; (with_reducible repeat first | apply blk_drewN | apply blk_drew | apply blk_alloc); exact BK522.out) Try.underlying28 rfl (by kernel_rfl)) rfl ?_
  exact ⟨by first | rfl | (simp [errW_none, errW_some] <;> rfl) | (simp [*, errW_none, errW_some] <;> rfl), by repeat (first | (with_reducible first | exact HB.out | apply below_alloc | apply pw_below_drewN | apply below_drew1 | refine below_set ?_ GE521.out | refine below_set ?_ GE522.out) | exact HB.out)⟩
attribute [local go_sem high] eqA28
/-! ### impl_toward: function 109 -/
def impl_toward.l0 : Nat → Int → Int → Int → Int → Int → Int → Int → Int → Option (Int)
 | 0, _, _, _, _, _, _, _, _ => none
 | k + 1, x0, x7, x532000, x532001, x532002, x533000, x533001, x533002 => if x7 ≤ x0 then ((impl_neighbour.f k x0 x532000 x532001 x532002 x7).bind fun bt533 => (if bt533.2.2.2 = true then (if (bt533.1 == x533000 && (bt533.2.1 == x533001 && (bt533.2.2.1 == x533002))) = true then (some x7) else (impl_toward.l0 k x0 (wrap64 (x7 + 1)) x532000 x532001 x532002 x533000 x533001 x533002)) else (impl_toward.l0 k x0 (wrap64 (x7 + 1)) x532000 x532001 x532002 x533000 x533001 x533002))) else (some 0)
def impl_toward.f (k : Nat) (a0 : Int) (a1_0 : Int) (a1_1 : Int) (a1_2 : Int) (a2_0 : Int) (a2_1 : Int) (a2_2 : Int) : Option (Int) := impl_toward.l0 k a0 1 a1_0 a1_1 a1_2 a2_0 a2_1 a2_2
set_option maxHeartbeats 8000000 in
set_option maxRecDepth 100000 in
theorem impl_toward.calls (k : Nat) (a0 : Int) (a1_0 : Int) (a1_1 : Int) (a1_2 : Int) (a2_0 : Int) (a2_1 : Int) (a2_2 : Int) (r : Int) (w : World) (h : impl_toward.f k a0 a1_0 a1_1 a1_2 a2_0 a2_1 a2_2 = some r) :
  Calls Try.prog 109 #[.int .i64 a0, .agg #[.int .i64 a1_0, .int .i64 a1_1, .int .i64 a1_2], .agg #[.int .i64 a2_0, .int .i64 a2_1, .int .i64 a2_2]] w fun e w' => e = .returned (.int .i64 r) ∧ Below w.heap.size w w' := by
 have hu28 := Try.underlying28
 have HB := Aside0.mk (Below.refl w.heap.size w)
 have H : (impl_toward.l0 k a0 1 a1_0 a1_1 a1_2 a2_0 a2_1 a2_2) = some r := h
 clear h
 have H' := Aside0.mk H
 clear H
 go_enter Try.func109, Try.ntmps109
 go_wp2_with (first | ((with_reducible refine gate_dst (N := 4) rfl ?_); refine bx_ 4 #[.int .i64 a1_0, .int .i64 a1_1, .int .i64 a1_2] 28 ?_; intro gb531 hg w4 hbox hb; have BK531 := Aside0.mk (hbox); have GW531 := bs_ HB hg; have GE531 := bs_ HB hg; replace HB := bt_ HB hb; clear hb hbox hg) | ((with_reducible refine gate_dst (N := 5) rfl ?_); refine bx_ 5 #[.int .i64 a2_0, .int .i64 a2_1, .int .i64 a2_2] 28 ?_; intro gb532 hg w5 hbox hb; have BK532 := Aside0.mk (hbox); have GW532 := bs_ HB hg; have GE532 := bs_ HB hg; have NB531_532 := bm_ BK531 hg; have NB532_531 := bn_ BK531 hg; replace BK531 := bb_ BK531 hb; replace HB := bt_ HB hb; clear hb hbox hg))
 go_loopg [7] k (fun kq v7 w' => ∃ (x7_1 : Int), v7 = .int .i64 x7_1 ∧ Aside0 (impl_toward.l0 kq a0 x7_1 a1_0 a1_1 a1_2 a2_0 a2_1 a2_2 = some r) ∧ Aside0 (kq ≤ k) ∧ Aside0 (w'.heap[gb531]? = some (.cells #[.int .i64 a1_0, .int .i64 a1_1, .int .i64 a1_2] 28 (0, 0))) ∧ Aside0 (w'.heap[gb532]? = some (.cells #[.int .i64 a2_0, .int .i64 a2_1, .int .i64 a2_2] 28 (0, 0))) ∧ Aside0 (Below w.heap.size w w'))
 case atStart => exact ⟨(1), (by first | rfl | (simp; done) | (simp [*]; done) | (simp [wrap64]; done)), H', ⟨Nat.le_refl _⟩, bl_ BK531, bl_ BK532, bw_ HB⟩
 case round =>
  clear H'
  try clear c1
  try clear p2
  obtain ⟨x7_1, rfl, HA, HK1, BK531, BK532, HB⟩ := hrel
  cases gk with
  | zero => exact absurd HA.out (by simp [impl_toward.l0])
  | succ k1 =>
   have H := HA.out
   clear HA
   simp only [impl_toward.l0] at H
   by_cases c6 : x7_1 ≤ a0
   ·rw [if_pos c6] at H
    have c6b0 : decide (x7_1 ≤ a0) = true := decide_eq_true c6
    clear c6
    replace H := Option.bind_eq_some_iff.mp H
    obtain ⟨⟨t533, t534, t535, t536⟩, A70, H⟩ := H
    have A7 := Aside0.mk A70
    clear A70
    by_cases c8 : t536 = true
    ·subst c8
     have H1 : (if (t533 == a2_0 && (t534 == a2_1 && (t535 == a2_2))) = true then (some x7_1) else (impl_toward.l0 k1 a0 (wrap64 (x7_1 + 1)) a1_0 a1_1 a1_2 a2_0 a2_1 a2_2)) = some r := by rw [if_pos rfl] at H; exact H
     clear H
     have H := H1
     clear H1
     by_cases c9 : (t533 == a2_0 && (t534 == a2_1 && (t535 == a2_2))) = true
     ·rw [if_pos c9] at H
      have c9b0 : (t533 == a2_0 && (t534 == a2_1 && (t535 == a2_2))) = true := c9
      (try (have c9b1 : decide (t533 = a2_0 && (t534 == a2_1 && (t535 == a2_2))) = true := by simpa using c9))
      (try (have c9b2 : (t533 == a2_0 && (t534 == a2_1 && (t535 == a2_2))) = true := by simpa using c9))
      clear c9
      obtain rfl := Option.some.inj H
      have hnb10 := NB531_532.out
      have hnc10 := NB532_531.out
      have hcz11_0 : wr.cell? ⟨gb531, 0, none⟩ = some (.int .i64 a1_0) := (blk_cell BK531.out 0).trans rfl
      have hcz11_1 : wr.cell? ⟨gb531, 1, none⟩ = some (.int .i64 a1_1) := (blk_cell BK531.out 1).trans rfl
      have hcz11_2 : wr.cell? ⟨gb531, 2, none⟩ = some (.int .i64 a1_2) := (blk_cell BK531.out 2).trans rfl
      have hfz11_0 := blk_frozen BK531.out 0
      have hfz11_1 := blk_frozen BK531.out 1
      have hfz11_2 := blk_frozen BK531.out 2
      go_wp2_with (first | ((with_reducible refine gate_callee (f := 116) rfl ?_); refine goesL_ (some 19) rfl rfl Try.func116 (by kernel_rfl) rfl #[.int .i64 a0, .agg #[.int .i64 a1_0, .int .i64 a1_1, .int .i64 a1_2], .int .i64 x7_1] rfl (by (try simp only [List.map_toArray, List.map_cons, List.map_nil]); first | done | rfl | (simp only [List.length_drop, List.length_take]; rfl)) ?_; (with_reducible refine (impl_neighbour.calls k1 a0 a1_0 a1_1 a1_2 x7_1 t533 t534 t535 true _ A7.out).mono ?_); rintro e w12 ⟨rfl, hb⟩; refine ⟨_, rfl, ?_⟩; replace BK531 := bb_ BK531 hb; replace BK532 := bb_ BK532 hb; replace HB := bt_ HB hb; (try clear hb); (try clear hb2); (try clear hk); (try clear hi)) | ((with_reducible refine gate_dst (N := 8) rfl ?_); refine bx_ 8 #[.int .i64 0, .int .i64 0, .int .i64 0] 28 ?_; intro gb537 hg w13 hbox hb; have BK537 := Aside0.mk (hbox); have GW537 := bs_ HB hg; have GE537 := bs_ HB hg; have NB531_537 := bm_ BK531 hg; have NB537_531 := bn_ BK531 hg; have NB532_537 := bm_ BK532 hg; have NB537_532 := bn_ BK532 hg; replace BK531 := bb_ BK531 hb; replace BK532 := bb_ BK532 hb; replace HB := bt_ HB hb; clear hb hbox hg; have hnb14 := NB537_531.out; have hnc14 := NB531_537.out; have hnb15 := NB537_532.out; have hnc15 := NB532_537.out; have hcz16_0 : w13.cell? ⟨gb537, 0, none⟩ = some (.int .i64 0) := (blk_cell BK537.out 0).trans rfl; have hcz16_1 : w13.cell? ⟨gb537, 1, none⟩ = some (.int .i64 0) := (blk_cell BK537.out 1).trans rfl; have hcz16_2 : w13.cell? ⟨gb537, 2, none⟩ = some (.int .i64 0) := (blk_cell BK537.out 2).trans rfl; have hfz16_0 := blk_frozen BK537.out 0; have hfz16_1 := blk_frozen BK537.out 1; have hfz16_2 := blk_frozen BK537.out 2; have hcz17_0 : w13.cell? ⟨gb532, 0, none⟩ = some (.int .i64 a2_0) := (blk_cell BK532.out 0).trans rfl; have hcz17_1 : w13.cell? ⟨gb532, 1, none⟩ = some (.int .i64 a2_1) := (blk_cell BK532.out 1).trans rfl; have hcz17_2 : w13.cell? ⟨gb532, 2, none⟩ = some (.int .i64 a2_2) := (blk_cell BK532.out 2).trans rfl; have hfz17_0 := blk_frozen BK532.out 0; have hfz17_1 := blk_frozen BK532.out 1; have hfz17_2 := blk_frozen BK532.out 2))
      go_ret
      exact ⟨by first | rfl | (simp [errW_none, errW_some] <;> rfl) | (simp [*, errW_none, errW_some] <;> rfl), by repeat (first | (with_reducible first | exact HB.out | apply below_alloc | apply pw_below_drewN | apply below_drew1 | refine below_set ?_ GE531.out | refine below_set ?_ GE532.out | refine below_set ?_ GE537.out) | exact HB.out)⟩
     ·rw [if_neg c9] at H
      have c9b0 : (t533 == a2_0 && (t534 == a2_1 && (t535 == a2_2))) = false := by simpa using c9
      (try (have c9b1 : decide (t533 = a2_0 && (t534 == a2_1 && (t535 == a2_2))) = false := by simpa using c9))
      (try (have c9b2 : (t533 == a2_0 && (t534 == a2_1 && (t535 == a2_2))) = false := by simpa using c9))
      (try (have c9b3 : ¬ (t533 = a2_0 && (t534 == a2_1 && (t535 == a2_2))) := by simpa using c9))
      clear c9
      have H' := Aside0.mk H
      clear H
      have hnb18 := NB531_532.out
      have hnc18 := NB532_531.out
      have hcz19_0 : wr.cell? ⟨gb531, 0, none⟩ = some (.int .i64 a1_0) := (blk_cell BK531.out 0).trans rfl
      have hcz19_1 : wr.cell? ⟨gb531, 1, none⟩ = some (.int .i64 a1_1) := (blk_cell BK531.out 1).trans rfl
      have hcz19_2 : wr.cell? ⟨gb531, 2, none⟩ = some (.int .i64 a1_2) := (blk_cell BK531.out 2).trans rfl
      have hfz19_0 := blk_frozen BK531.out 0
      have hfz19_1 := blk_frozen BK531.out 1
      have hfz19_2 := blk_frozen BK531.out 2
      go_wp2_with (first | ((with_reducible refine gate_callee (f := 116) rfl ?_); refine goesL_ (some 19) rfl rfl Try.func116 (by kernel_rfl) rfl #[.int .i64 a0, .agg #[.int .i64 a1_0, .int .i64 a1_1, .int .i64 a1_2], .int .i64 x7_1] rfl (by (try simp only [List.map_toArray, List.map_cons, List.map_nil]); first | done | rfl | (simp only [List.length_drop, List.length_take]; rfl)) ?_; (with_reducible refine (impl_neighbour.calls k1 a0 a1_0 a1_1 a1_2 x7_1 t533 t534 t535 true _ A7.out).mono ?_); rintro e w20 ⟨rfl, hb⟩; refine ⟨_, rfl, ?_⟩; replace BK531 := bb_ BK531 hb; replace BK532 := bb_ BK532 hb; replace HB := bt_ HB hb; (try clear hb); (try clear hb2); (try clear hk); (try clear hi)) | ((with_reducible refine gate_dst (N := 8) rfl ?_); refine bx_ 8 #[.int .i64 0, .int .i64 0, .int .i64 0] 28 ?_; intro gb537 hg w21 hbox hb; have BK537 := Aside0.mk (hbox); have GW537 := bs_ HB hg; have GE537 := bs_ HB hg; have NB531_537 := bm_ BK531 hg; have NB537_531 := bn_ BK531 hg; have NB532_537 := bm_ BK532 hg; have NB537_532 := bn_ BK532 hg; replace BK531 := bb_ BK531 hb; replace BK532 := bb_ BK532 hb; replace HB := bt_ HB hb; clear hb hbox hg; have hnb22 := NB537_531.out; have hnc22 := NB531_537.out; have hnb23 := NB537_532.out; have hnc23 := NB532_537.out; have hcz24_0 : w21.cell? ⟨gb537, 0, none⟩ = some (.int .i64 0) := (blk_cell BK537.out 0).trans rfl; have hcz24_1 : w21.cell? ⟨gb537, 1, none⟩ = some (.int .i64 0) := (blk_cell BK537.out 1).trans rfl; have hcz24_2 : w21.cell? ⟨gb537, 2, none⟩ = some (.int .i64 0) := (blk_cell BK537.out 2).trans rfl; have hfz24_0 := blk_frozen BK537.out 0; have hfz24_1 := blk_frozen BK537.out 1; have hfz24_2 := blk_frozen BK537.out 2; have hcz25_0 : w21.cell? ⟨gb532, 0, none⟩ = some (.int .i64 a2_0) := (blk_cell BK532.out 0).trans rfl; have hcz25_1 : w21.cell? ⟨gb532, 1, none⟩ = some (.int .i64 a2_1) := (blk_cell BK532.out 1).trans rfl; have hcz25_2 : w21.cell? ⟨gb532, 2, none⟩ = some (.int .i64 a2_2) := (blk_cell BK532.out 2).trans rfl; have hfz25_0 := blk_frozen BK532.out 0; have hfz25_1 := blk_frozen BK532.out 1; have hfz25_2 := blk_frozen BK532.out 2))
      go_roundg k1
      case measure => have := HK1.out; omega
      case rel => exact ⟨(wrap64 (x7_1 + 1)), (by first | rfl | (simp; done) | (simp [*]; done) | (simp [wrap64]; done)), H', ⟨by have := HK1.out; omega⟩, ⟨by (with_reducible repeat first | apply blk_drewN | apply blk_drew | apply blk_alloc); refine blk_far ?_ NB531_537.out _; (with_reducible repeat first | apply blk_drewN | apply blk_drew | apply blk_alloc); refine blk_far ?_ NB531_537.out _; (with_reducible repeat first | apply blk_drewN | apply blk_drew | apply blk_alloc); refine blk_far ?_ NB531_537.out _; (with_reducible repeat first | apply blk_drewN | apply blk_drew | apply blk_alloc); exact BK531.out⟩, ⟨by (with_reducible repeat first | apply blk_drewN | apply blk_drew | apply blk_alloc); refine blk_far ?_ NB532_537.out _; (with_reducible repeat first | apply blk_drewN | apply blk_drew | apply blk_alloc); refine blk_far ?_ NB532_537.out _; (with_reducible repeat first | apply blk_drewN | apply blk_drew | apply blk_alloc); refine blk_far ?_ NB532_537.out _; (with_reducible repeat first | apply blk_drewN | apply blk_drew | apply blk_alloc); exact BK532.out⟩, bw_ HB⟩
    ·replace c8 := Bool.eq_false_iff.mpr c8
     subst c8
     have H1 : (impl_toward.l0 k1 a0 (wrap64 (x7_1 + 1)) a1_0 a1_1 a1_2 a2_0 a2_1 a2_2) = some r := by rw [if_neg (show ¬ (false = true) by decide)] at H; exact H
     clear H
     have H := H1
     clear H1
     have H' := Aside0.mk H
     clear H
     have hnb26 := NB531_532.out
     have hnc26 := NB532_531.out
     have hcz27_0 : wr.cell? ⟨gb531, 0, none⟩ = some (.int .i64 a1_0) := (blk_cell BK531.out 0).trans rfl
     have hcz27_1 : wr.cell? ⟨gb531, 1, none⟩ = some (.int .i64 a1_1) := (blk_cell BK531.out 1).trans rfl
     have hcz27_2 : wr.cell? ⟨gb531, 2, none⟩ = some (.int .i64 a1_2) := (blk_cell BK531.out 2).trans rfl
     have hfz27_0 := blk_frozen BK531.out 0
     have hfz27_1 := blk_frozen BK531.out 1
     have hfz27_2 := blk_frozen BK531.out 2
     go_wp2_with (first | ((with_reducible refine gate_callee (f := 116) rfl ?_); refine goesL_ (some 19) rfl rfl Try.func116 (by kernel_rfl) rfl #[.int .i64 a0, .agg #[.int .i64 a1_0, .int .i64 a1_1, .int .i64 a1_2], .int .i64 x7_1] rfl (by (try simp only [List.map_toArray, List.map_cons, List.map_nil]); first | done | rfl | (simp only [List.length_drop, List.length_take]; rfl)) ?_; (with_reducible refine (impl_neighbour.calls k1 a0 a1_0 a1_1 a1_2 x7_1 t533 t534 t535 false _ A7.out).mono ?_); rintro e w28 ⟨rfl, hb⟩; refine ⟨_, rfl, ?_⟩; replace BK531 := bb_ BK531 hb; replace BK532 := bb_ BK532 hb; replace HB := bt_ HB hb; (try clear hb); (try clear hb2); (try clear hk); (try clear hi)) | ((with_reducible refine gate_dst (N := 8) rfl ?_); refine bx_ 8 #[.int .i64 0, .int .i64 0, .int .i64 0] 28 ?_; intro gb537 hg w29 hbox hb; have BK537 := Aside0.mk (hbox); have GW537 := bs_ HB hg; have GE537 := bs_ HB hg; have NB531_537 := bm_ BK531 hg; have NB537_531 := bn_ BK531 hg; have NB532_537 := bm_ BK532 hg; have NB537_532 := bn_ BK532 hg; replace BK531 := bb_ BK531 hb; replace BK532 := bb_ BK532 hb; replace HB := bt_ HB hb; clear hb hbox hg; have hnb30 := NB537_531.out; have hnc30 := NB531_537.out; have hnb31 := NB537_532.out; have hnc31 := NB532_537.out; have hcz32_0 : w29.cell? ⟨gb537, 0, none⟩ = some (.int .i64 0) := (blk_cell BK537.out 0).trans rfl; have hcz32_1 : w29.cell? ⟨gb537, 1, none⟩ = some (.int .i64 0) := (blk_cell BK537.out 1).trans rfl; have hcz32_2 : w29.cell? ⟨gb537, 2, none⟩ = some (.int .i64 0) := (blk_cell BK537.out 2).trans rfl; have hfz32_0 := blk_frozen BK537.out 0; have hfz32_1 := blk_frozen BK537.out 1; have hfz32_2 := blk_frozen BK537.out 2))
     go_roundg k1
     case measure => have := HK1.out; omega
     case rel => exact ⟨(wrap64 (x7_1 + 1)), (by first | rfl | (simp; done) | (simp [*]; done) | (simp [wrap64]; done)), H', ⟨by have := HK1.out; omega⟩, ⟨by (with_reducible repeat first | apply blk_drewN | apply blk_drew | apply blk_alloc); refine blk_far ?_ NB531_537.out _; (with_reducible repeat first | apply blk_drewN | apply blk_drew | apply blk_alloc); refine blk_far ?_ NB531_537.out _; (with_reducible repeat first | apply blk_drewN | apply blk_drew | apply blk_alloc); refine blk_far ?_ NB531_537.out _; (with_reducible repeat first | apply blk_drewN | apply blk_drew | apply blk_alloc); exact BK531.out⟩, ⟨by (with_reducible repeat first | apply blk_drewN | apply blk_drew | apply blk_alloc); refine blk_far ?_ NB532_537.out _; (with_reducible repeat first | apply blk_drewN | apply blk_drew | apply blk_alloc); refine blk_far ?_ NB532_537.out _; (with_reducible repeat first | apply blk_drewN | apply blk_drew | apply blk_alloc); refine blk_far ?_ NB532_537.out _; (with_reducible repeat first | apply blk_drewN | apply blk_drew | apply blk_alloc); exact BK532.out⟩, bw_ HB⟩
   ·rw [if_neg c6] at H
    have c6b0 : decide (x7_1 ≤ a0) = false := decide_eq_false c6
    clear c6
    obtain rfl := Option.some.inj H
    go_wp2
    go_ret
    exact ⟨by first | rfl | (simp [errW_none, errW_some] <;> rfl) | (simp [*, errW_none, errW_some] <;> rfl), by repeat (first | (with_reducible first | exact HB.out | apply below_alloc | apply pw_below_drewN | apply below_drew1 | refine below_set ?_ GE531.out | refine below_set ?_ GE532.out) | exact HB.out)⟩
/-! ### impl_letterTo: function 91 -/
def impl_letterTo.f (k : Nat) (a0 : Int) (a1_0 : Int) (a1_1 : Int) (a1_2 : Int) (a2_0 : Int) (a2_1 : Int) (a2_2 : Int) : Option (Int) := if a2_0 < a1_0 then (some 117) else ((impl_toward.f k a0 a1_0 a1_1 a1_2 a2_0 a2_1 a2_2).bind fun t540 => (some ((wrap64 ((wrap64 (48 + t540)) - 1)) % 256)))
set_option maxHeartbeats 8000000 in
set_option maxRecDepth 100000 in
theorem impl_letterTo.calls (k : Nat) (a0 : Int) (a1_0 : Int) (a1_1 : Int) (a1_2 : Int) (a2_0 : Int) (a2_1 : Int) (a2_2 : Int) (r : Int) (w : World) (h : impl_letterTo.f k a0 a1_0 a1_1 a1_2 a2_0 a2_1 a2_2 = some r) :
  Calls Try.prog 91 #[.int .i64 a0, .agg #[.int .i64 a1_0, .int .i64 a1_1, .int .i64 a1_2], .agg #[.int .i64 a2_0, .int .i64 a2_1, .int .i64 a2_2]] w fun e w' => e = .returned (.int .u8 r) ∧ Below w.heap.size w w' := by
 have hu28 := Try.underlying28
 have HB := Aside0.mk (Below.refl w.heap.size w)
 have H : (if a2_0 < a1_0 then (some 117) else ((impl_toward.f k a0 a1_0 a1_1 a1_2 a2_0 a2_1 a2_2).bind fun t540 => (some ((wrap64 ((wrap64 (48 + t540)) - 1)) % 256)))) = some r := h
 clear h
 by_cases c4 : a2_0 < a1_0
 ·rw [if_pos c4] at H
  have c4b0 : decide (a2_0 < a1_0) = true := decide_eq_true c4
  clear c4
  obtain rfl := Option.some.inj H
  go_enter Try.func91, Try.ntmps91
  go_wp2_with (first | ((with_reducible refine gate_dst (N := 4) rfl ?_); refine bx_ 4 #[.int .i64 a1_0, .int .i64 a1_1, .int .i64 a1_2] 28 ?_; intro gb538 hg w5 hbox hb; have BK538 := Aside0.mk (hbox); have GW538 := bs_ HB hg; have GE538 := bs_ HB hg; replace HB := bt_ HB hb; clear hb hbox hg) | ((with_reducible refine gate_dst (N := 5) rfl ?_); refine bx_ 5 #[.int .i64 a2_0, .int .i64 a2_1, .int .i64 a2_2] 28 ?_; intro gb539 hg w6 hbox hb; have BK539 := Aside0.mk (hbox); have GW539 := bs_ HB hg; have GE539 := bs_ HB hg; have NB538_539 := bm_ BK538 hg; have NB539_538 := bn_ BK538 hg; replace BK538 := bb_ BK538 hb; replace HB := bt_ HB hb; clear hb hbox hg; have hnb7 := NB539_538.out; have hnc7 := NB538_539.out; have hcz8_0 : w6.cell? ⟨gb539, 0, none⟩ = some (.int .i64 a2_0) := (blk_cell BK539.out 0).trans rfl; have hcz8_1 : w6.cell? ⟨gb539, 1, none⟩ = some (.int .i64 a2_1) := (blk_cell BK539.out 1).trans rfl; have hcz8_2 : w6.cell? ⟨gb539, 2, none⟩ = some (.int .i64 a2_2) := (blk_cell BK539.out 2).trans rfl; have hfz8_0 := blk_frozen BK539.out 0; have hfz8_1 := blk_frozen BK539.out 1; have hfz8_2 := blk_frozen BK539.out 2; have hcz9_0 : w6.cell? ⟨gb538, 0, none⟩ = some (.int .i64 a1_0) := (blk_cell BK538.out 0).trans rfl; have hcz9_1 : w6.cell? ⟨gb538, 1, none⟩ = some (.int .i64 a1_1) := (blk_cell BK538.out 1).trans rfl; have hcz9_2 : w6.cell? ⟨gb538, 2, none⟩ = some (.int .i64 a1_2) := (blk_cell BK538.out 2).trans rfl; have hfz9_0 := blk_frozen BK538.out 0; have hfz9_1 := blk_frozen BK538.out 1; have hfz9_2 := blk_frozen BK538.out 2))
  go_ret
  exact ⟨by first | rfl | (simp [errW_none, errW_some] <;> rfl) | (simp [*, errW_none, errW_some] <;> rfl), by repeat (first | (with_reducible first | exact HB.out | apply below_alloc | apply pw_below_drewN | apply below_drew1 | refine below_set ?_ GE538.out | refine below_set ?_ GE539.out) | exact HB.out)⟩
 ·rw [if_neg c4] at H
  have c4b0 : decide (a2_0 < a1_0) = false := decide_eq_false c4
  clear c4
  replace H := Option.bind_eq_some_iff.mp H
  obtain ⟨t540, A100, H⟩ := H
  have A10 := Aside0.mk A100
  clear A100
  obtain rfl := Option.some.inj H
  go_enter Try.func91, Try.ntmps91
  go_wp2_with (first | ((with_reducible refine gate_dst (N := 4) rfl ?_); refine bx_ 4 #[.int .i64 a1_0, .int .i64 a1_1, .int .i64 a1_2] 28 ?_; intro gb538 hg w11 hbox hb; have BK538 := Aside0.mk (hbox); have GW538 := bs_ HB hg; have GE538 := bs_ HB hg; replace HB := bt_ HB hb; clear hb hbox hg) | ((with_reducible refine gate_dst (N := 5) rfl ?_); refine bx_ 5 #[.int .i64 a2_0, .int .i64 a2_1, .int .i64 a2_2] 28 ?_; intro gb539 hg w12 hbox hb; have BK539 := Aside0.mk (hbox); have GW539 := bs_ HB hg; have GE539 := bs_ HB hg; have NB538_539 := bm_ BK538 hg; have NB539_538 := bn_ BK538 hg; replace BK538 := bb_ BK538 hb; replace HB := bt_ HB hb; clear hb hbox hg; have hnb13 := NB539_538.out; have hnc13 := NB538_539.out; have hcz14_0 : w12.cell? ⟨gb539, 0, none⟩ = some (.int .i64 a2_0) := (blk_cell BK539.out 0).trans rfl; have hcz14_1 : w12.cell? ⟨gb539, 1, none⟩ = some (.int .i64 a2_1) := (blk_cell BK539.out 1).trans rfl; have hcz14_2 : w12.cell? ⟨gb539, 2, none⟩ = some (.int .i64 a2_2) := (blk_cell BK539.out 2).trans rfl; have hfz14_0 := blk_frozen BK539.out 0; have hfz14_1 := blk_frozen BK539.out 1; have hfz14_2 := blk_frozen BK539.out 2; have hcz15_0 : w12.cell? ⟨gb538, 0, none⟩ = some (.int .i64 a1_0) := (blk_cell BK538.out 0).trans rfl; have hcz15_1 : w12.cell? ⟨gb538, 1, none⟩ = some (.int .i64 a1_1) := (blk_cell BK538.out 1).trans rfl; have hcz15_2 : w12.cell? ⟨gb538, 2, none⟩ = some (.int .i64 a1_2) := (blk_cell BK538.out 2).trans rfl; have hfz15_0 := blk_frozen BK538.out 0; have hfz15_1 := blk_frozen BK538.out 1; have hfz15_2 := blk_frozen BK538.out 2) | ((with_reducible refine gate_callee (f := 109) rfl ?_); refine goesL_ (some 15) rfl rfl Try.func109 (by kernel_rfl) rfl #[.int .i64 a0, .agg #[.int .i64 a1_0, .int .i64 a1_1, .int .i64 a1_2], .agg #[.int .i64 a2_0, .int .i64 a2_1, .int .i64 a2_2]] rfl (by (try simp only [List.map_toArray, List.map_cons, List.map_nil]); first | done | rfl | (simp only [List.length_drop, List.length_take]; rfl)) ?_; (with_reducible refine (impl_toward.calls k a0 a1_0 a1_1 a1_2 a2_0 a2_1 a2_2 t540 _ A10.out).mono ?_); rintro e w16 ⟨rfl, hb⟩; refine ⟨_, rfl, ?_⟩; replace BK538 := bb_ BK538 hb; replace BK539 := bb_ BK539 hb; replace HB := bt_ HB hb; (try clear hb); (try clear hb2); (try clear hk); (try clear hi)))
  go_ret
  exact ⟨by first | rfl | (simp [errW_none, errW_some] <;> rfl) | (simp [*, errW_none, errW_some] <;> rfl), by repeat (first | (with_reducible first | exact HB.out | apply below_alloc | apply pw_below_drewN | apply below_drew1 | refine below_set ?_ GE538.out | refine below_set ?_ GE539.out) | exact HB.out)⟩
end Go.Proofs.Ytojpcbbmbnmchaa.QC
