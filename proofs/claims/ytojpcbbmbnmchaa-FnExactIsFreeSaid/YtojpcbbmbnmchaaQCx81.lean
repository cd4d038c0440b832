-- Written by a program of this session out of Lean's own print of the loaded program; Lean checks it.
import Derived.Test.YtojpcbbmbnmchaaQCx4
import Derived.Test.YtojpcbbmbnmchaaQCx80
namespace Go.Proofs.Ytojpcbbmbnmchaa.QC
open Go.RowKit Go.Proofs.YtojpcbbmbnmchaaW.PrintWords Go.Proofs.YtojpcbbmbnmchaaW.PrintLast Go.Proofs.YtojpcbbmbnmchaaW.PrintMore
attribute [local go_sem] isSome_setCell max2_int min2_int max_two min_two max_three min_three max_four min_four   -- for this text's walks alone
set_option linter.unusedVariables false
set_option linter.unusedSimpArgs false

/-! ### spec_l09Apart: function 92 -/
def spec_l09Apart.j0 : Nat → Int → Bool → Int → Int → Int → Bool → Int → Int → Int → Bool → Option (Bool)
 | 0, _, _, _, _, _, _, _, _, _, _ => none
 | k + 1, x0, x7, x616000, x616001, x616002, x616003, x617000, x617001, x617002, x617003 => if x7 = true then (some false) else (if x616003 = true then ((spec_l01Holds.f k x0 x616000 x616001 x616002 x617000 x617001 x617002).bind fun t617 => (some t617)) else (if x617003 = true then ((spec_l01Holds.f k x0 x617000 x617001 x617002 x616000 x616001 x616002).bind fun t618 => (some t618)) else ((spec_l01Holds.f k x0 x616000 x616001 x616002 x617000 x617001 x617002).bind fun t619 => (if t619 = true then (some false) else ((spec_l01Holds.f k x0 x617000 x617001 x617002 x616000 x616001 x616002).bind fun t620 => (some (!t620)))))))
def spec_l09Apart.f (k : Nat) (a0 : Int) (a1_0 : Int) (a1_1 : Int) (a1_2 : Int) (a1_3 : Bool) (a2_0 : Int) (a2_1 : Int) (a2_2 : Int) (a2_3 : Bool) : Option (Bool) := if a1_3 = true then (spec_l09Apart.j0 k a0 a2_3 a1_0 a1_1 a1_2 a1_3 a2_0 a2_1 a2_2 a2_3) else (spec_l09Apart.j0 k a0 false a1_0 a1_1 a1_2 a1_3 a2_0 a2_1 a2_2 a2_3)
set_option maxHeartbeats 8000000 in
set_option maxRecDepth 100000 in
theorem spec_l09Apart.calls (k : Nat) (a0 : Int) (a1_0 : Int) (a1_1 : Int) (a1_2 : Int) (a1_3 : Bool) (a2_0 : Int) (a2_1 : Int) (a2_2 : Int) (a2_3 : Bool) (r : Bool) (w : World) (h : spec_l09Apart.f k a0 a1_0 a1_1 a1_2 a1_3 a2_0 a2_1 a2_2 a2_3 = some r) :
  Calls Try.prog 92 #[.int .i64 a0, .agg #[.int .i64 a1_0, .int .i64 a1_1, .int .i64 a1_2, .bool a1_3], .agg #[.int .i64 a2_0, .int .i64 a2_1, .int .i64 a2_2, .bool a2_3]] w fun e w' => e = .returned (.bool r) ∧ Below w.heap.size w w' := by
 have hu30 := Try.underlying30
 have hu28 := Try.underlying28
 have HB := Aside0.mk (Below.refl w.heap.size w)
 have H : (if a1_3 = true then (spec_l09Apart.j0 k a0 a2_3 a1_0 a1_1 a1_2 a1_3 a2_0 a2_1 a2_2 a2_3) else (spec_l09Apart.j0 k a0 false a1_0 a1_1 a1_2 a1_3 a2_0 a2_1 a2_2 a2_3)) = some r := h
 clear h
 have HC4 := Aside0.mk H
 clear H
 go_enter Try.func92, Try.ntmps92
 go_upto_region 1 with (first | ((with_reducible refine gate_dst (N := 4) rfl ?_); refine bx_ 4 #[.int .i64 a1_0, .int .i64 a1_1, .int .i64 a1_2, .bool a1_3] 30 ?_; intro gb615 hg w5 hbox hb; have BK615 := Aside0.mk (hbox); have GW615 := bs_ HB hg; have GE615 := bs_ HB hg; replace HB := bt_ HB hb; clear hb hbox hg) | ((with_reducible refine gate_dst (N := 5) rfl ?_); refine bx_ 5 #[.int .i64 a2_0, .int .i64 a2_1, .int .i64 a2_2, .bool a2_3] 30 ?_; intro gb616 hg w6 hbox hb; have BK616 := Aside0.mk (hbox); have GW616 := bs_ HB hg; have GE616 := bs_ HB hg; have NB615_616 := bm_ BK615 hg; have NB616_615 := bn_ BK615 hg; replace BK615 := bb_ BK615 hb; replace HB := bt_ HB hb; clear hb hbox hg))
 (try simp only [Act.put, lstS, lstZ, lstC])
 go_cut [7] (fun v7 wc => ∃ (kq : Nat) (x7_3 : Bool), v7 = .bool x7_3 ∧ Aside0 (spec_l09Apart.j0 kq a0 x7_3 a1_0 a1_1 a1_2 a1_3 a2_0 a2_1 a2_2 a2_3 = some r) ∧ Aside0 (kq ≤ k) ∧ Aside0 (wc.heap[gb615]? = some (.cells #[.int .i64 a1_0, .int .i64 a1_1, .int .i64 a1_2, .bool a1_3] 30 (0, 0))) ∧ Aside0 (wc.heap[gb616]? = some (.cells #[.int .i64 a2_0, .int .i64 a2_1, .int .i64 a2_2, .bool a2_3] 30 (0, 0))) ∧ Aside0 (Below w.heap.size w wc))
 case first =>
  have H := HC4.out
  clear HC4
  by_cases c7 : a1_3 = true
  ·subst c7
   have H1 : (spec_l09Apart.j0 k a0 a2_3 a1_0 a1_1 a1_2 true a2_0 a2_1 a2_2 a2_3) = some r := by rw [if_pos rfl] at H; exact H
   clear H
   have H := H1
   clear H1
   have H' := Aside0.mk H
   clear H
   have hnb8 := NB615_616.out
   have hnc8 := NB616_615.out
   have hcz9_0 : w6.cell? ⟨gb615, 0, none⟩ = some (.int .i64 a1_0) := (blk_cell BK615.out 0).trans rfl
   have hcz9_1 : w6.cell? ⟨gb615, 1, none⟩ = some (.int .i64 a1_1) := (blk_cell BK615.out 1).trans rfl
   have hcz9_2 : w6.cell? ⟨gb615, 2, none⟩ = some (.int .i64 a1_2) := (blk_cell BK615.out 2).trans rfl
   have hcz9_3 : w6.cell? ⟨gb615, 3, none⟩ = some (.bool true) := (blk_cell BK615.out 3).trans rfl
   have hfz9_0 := blk_frozen BK615.out 0
   have hfz9_1 := blk_frozen BK615.out 1
   have hfz9_2 := blk_frozen BK615.out 2
   have hfz9_3 := blk_frozen BK615.out 3
   have hcz10_0 : w6.cell? ⟨gb616, 0, none⟩ = some (.int .i64 a2_0) := (blk_cell BK616.out 0).trans rfl
   have hcz10_1 : w6.cell? ⟨gb616, 1, none⟩ = some (.int .i64 a2_1) := (blk_cell BK616.out 1).trans rfl
   have hcz10_2 : w6.cell? ⟨gb616, 2, none⟩ = some (.int .i64 a2_2) := (blk_cell BK616.out 2).trans rfl
   have hcz10_3 : w6.cell? ⟨gb616, 3, none⟩ = some (.bool a2_3) := (blk_cell BK616.out 3).trans rfl
   have hfz10_0 := blk_frozen BK616.out 0
   have hfz10_1 := blk_frozen BK616.out 1
   have hfz10_2 := blk_frozen BK616.out 2
   have hfz10_3 := blk_frozen BK616.out 3
   go_wp2
   go_meet
   case rel => exact ⟨_, (a2_3), (by first | rfl | (simp; done) | (simp [*]; done) | (simp [wrap64]; done)), H', ⟨by first | omega | exact Nat.le_refl _⟩, bl_ BK615, bl_ BK616, bw_ HB⟩
  ·replace c7 := Bool.eq_false_iff.mpr c7
   subst c7
   have H1 : (spec_l09Apart.j0 k a0 false a1_0 a1_1 a1_2 false a2_0 a2_1 a2_2 a2_3) = some r := by rw [if_neg (show ¬ (false = true) by decide)] at H; exact H
   clear H
   have H := H1
   clear H1
   have H' := Aside0.mk H
   clear H
   have hnb11 := NB615_616.out
   have hnc11 := NB616_615.out
   have hcz12_0 : w6.cell? ⟨gb615, 0, none⟩ = some (.int .i64 a1_0) := (blk_cell BK615.out 0).trans rfl
   have hcz12_1 : w6.cell? ⟨gb615, 1, none⟩ = some (.int .i64 a1_1) := (blk_cell BK615.out 1).trans rfl
   have hcz12_2 : w6.cell? ⟨gb615, 2, none⟩ = some (.int .i64 a1_2) := (blk_cell BK615.out 2).trans rfl
   have hcz12_3 : w6.cell? ⟨gb615, 3, none⟩ = some (.bool false) := (blk_cell BK615.out 3).trans rfl
   have hfz12_0 := blk_frozen BK615.out 0
   have hfz12_1 := blk_frozen BK615.out 1
   have hfz12_2 := blk_frozen BK615.out 2
   have hfz12_3 := blk_frozen BK615.out 3
   go_wp2
   go_meet
   case rel => exact ⟨_, (false), (by first | rfl | (simp; done) | (simp [*]; done) | (simp [wrap64]; done)), H', ⟨by first | omega | exact Nat.le_refl _⟩, bl_ BK615, bl_ BK616, bw_ HB⟩
 case rest =>
  clear HC4
  try clear c1
  try clear p2
  try clear c7
  try clear c8
  try clear c9
  try clear c11
  try clear hcz10_0
  try clear hcz10_1
  try clear hcz10_2
  try clear hcz10_3
  try clear hcz12_0
  try clear hcz12_1
  try clear hcz12_2
  try clear hcz12_3
  try clear hcz9_0
  try clear hcz9_1
  try clear hcz9_2
  try clear hcz9_3
  try clear hfz10_0
  try clear hfz10_1
  try clear hfz10_2
  try clear hfz10_3
  try clear hfz12_0
  try clear hfz12_1
  try clear hfz12_2
  try clear hfz12_3
  try clear hfz9_0
  try clear hfz9_1
  try clear hfz9_2
  try clear hfz9_3
  obtain ⟨kq, x7_3, rfl, HA, HJ3, BK615, BK616, HB⟩ := hcut
  cases kq with
  | zero => exact absurd HA.out (by simp [spec_l09Apart.j0])
  | succ kj3 =>
   have H := HA.out
   clear HA
   simp only [spec_l09Apart.j0] at H
   by_cases c13 : x7_3 = true
   ·subst c13
    have H1 : (some false) = some r := by rw [if_pos rfl] at H; exact H
    clear H
    have H := H1
    clear H1
    obtain rfl := Option.some.inj H
    go_wp2
    go_ret
    exact ⟨by first | rfl | (simp [errW_none, errW_some] <;> rfl) | (simp [*, errW_none, errW_some] <;> rfl), by repeat (first | (with_reducible first | exact HB.out | apply below_alloc | apply pw_below_drewN | apply below_drew1 | refine below_set ?_ GE615.out | refine below_set ?_ GE616.out) | exact HB.out)⟩
   ·replace c13 := Bool.eq_false_iff.mpr c13
    subst c13
    have H1 : (if a1_3 = true then ((spec_l01Holds.f kj3 a0 a1_0 a1_1 a1_2 a2_0 a2_1 a2_2).bind fun t617 => (some t617)) else (if a2_3 = true then ((spec_l01Holds.f kj3 a0 a2_0 a2_1 a2_2 a1_0 a1_1 a1_2).bind fun t618 => (some t618)) else ((spec_l01Holds.f kj3 a0 a1_0 a1_1 a1_2 a2_0 a2_1 a2_2).bind fun t619 => (if t619 = true then (some false) else ((spec_l01Holds.f kj3 a0 a2_0 a2_1 a2_2 a1_0 a1_1 a1_2).bind fun t620 => (some (!t620))))))) = some r := by rw [if_neg (show ¬ (false = true) by decide)] at H; exact H
    clear H
    have H := H1
    clear H1
    by_cases c14 : a1_3 = true
    ·subst c14
     have H1 : ((spec_l01Holds.f kj3 a0 a1_0 a1_1 a1_2 a2_0 a2_1 a2_2).bind fun t617 => (some t617)) = some r := by rw [if_pos rfl] at H; exact H
     clear H
     have H := H1
     clear H1
     replace H := Option.bind_eq_some_iff.mp H
     obtain ⟨t617, A150, H⟩ := H
     have A15 := Aside0.mk A150
     clear A150
     obtain rfl := Option.some.inj H
     have hnb16 := NB615_616.out
     have hnc16 := NB616_615.out
     have hcz17_0 : wc.cell? ⟨gb615, 0, none⟩ = some (.int .i64 a1_0) := (blk_cell BK615.out 0).trans rfl
     have hcz17_1 : wc.cell? ⟨gb615, 1, none⟩ = some (.int .i64 a1_1) := (blk_cell BK615.out 1).trans rfl
     have hcz17_2 : wc.cell? ⟨gb615, 2, none⟩ = some (.int .i64 a1_2) := (blk_cell BK615.out 2).trans rfl
     have hcz17_3 : wc.cell? ⟨gb615, 3, none⟩ = some (.bool true) := (blk_cell BK615.out 3).trans rfl
     have hfz17_0 := blk_frozen BK615.out 0
     have hfz17_1 := blk_frozen BK615.out 1
     have hfz17_2 := blk_frozen BK615.out 2
     have hfz17_3 := blk_frozen BK615.out 3
     have hcz18_0 : wc.cell? ⟨gb616, 0, none⟩ = some (.int .i64 a2_0) := (blk_cell BK616.out 0).trans rfl
     have hcz18_1 : wc.cell? ⟨gb616, 1, none⟩ = some (.int .i64 a2_1) := (blk_cell BK616.out 1).trans rfl
     have hcz18_2 : wc.cell? ⟨gb616, 2, none⟩ = some (.int .i64 a2_2) := (blk_cell BK616.out 2).trans rfl
     have hcz18_3 : wc.cell? ⟨gb616, 3, none⟩ = some (.bool a2_3) := (blk_cell BK616.out 3).trans rfl
     have hfz18_0 := blk_frozen BK616.out 0
     have hfz18_1 := blk_frozen BK616.out 1
     have hfz18_2 := blk_frozen BK616.out 2
     have hfz18_3 := blk_frozen BK616.out 3
     go_wp2_with (first | ((with_reducible refine gate_callee (f := 110) rfl ?_); refine goesL_ (some 22) rfl rfl Try.func110 (by kernel_rfl) rfl #[.int .i64 a0, .agg #[.int .i64 a1_0, .int .i64 a1_1, .int .i64 a1_2], .agg #[.int .i64 a2_0, .int .i64 a2_1, .int .i64 a2_2]] rfl (by (try simp only [List.map_toArray, List.map_cons, List.map_nil]); first | done | rfl | (simp only [List.length_drop, List.length_take]; rfl)) ?_; (with_reducible refine (spec_l01Holds.calls kj3 a0 a1_0 a1_1 a1_2 a2_0 a2_1 a2_2 t617 _ A15.out).mono ?_); rintro e w19 ⟨rfl, hb⟩; refine ⟨_, rfl, ?_⟩; replace BK615 := bb_ BK615 hb; replace BK616 := bb_ BK616 hb; replace HB := bt_ HB hb; (try clear hb); (try clear hb2); (try clear hk); (try clear hi)))
     go_ret
     exact ⟨by first | rfl | (simp [errW_none, errW_some] <;> rfl) | (simp [*, errW_none, errW_some] <;> rfl), by repeat (first | (with_reducible first | exact HB.out | apply below_alloc | apply pw_below_drewN | apply below_drew1 | refine below_set ?_ GE615.out | refine below_set ?_ GE616.out) | exact HB.out)⟩
    ·replace c14 := Bool.eq_false_iff.mpr c14
     subst c14
     have H1 : (if a2_3 = true then ((spec_l01Holds.f kj3 a0 a2_0 a2_1 a2_2 a1_0 a1_1 a1_2).bind fun t618 => (some t618)) else ((spec_l01Holds.f kj3 a0 a1_0 a1_1 a1_2 a2_0 a2_1 a2_2).bind fun t619 => (if t619 = true then (some false) else ((spec_l01Holds.f kj3 a0 a2_0 a2_1 a2_2 a1_0 a1_1 a1_2).bind fun t620 => (some (!t620)))))) = some r := by rw [if_neg (show ¬ (false = true) by decide)] at H; exact H
     clear H
     have H := H1
     clear H1
     by_cases c20 : a2_3 = true
     ·subst c20
      have H1 : ((spec_l01Holds.f kj3 a0 a2_0 a2_1 a2_2 a1_0 a1_1 a1_2).bind fun t618 => (some t618)) = some r := by rw [if_pos rfl] at H; exact H
      clear H
      have H := H1
      clear H1
      replace H := Option.bind_eq_some_iff.mp H
      obtain ⟨t618, A210, H⟩ := H
      have A21 := Aside0.mk A210
      clear A210
      obtain rfl := Option.some.inj H
      have hnb22 := NB615_616.out
      have hnc22 := NB616_615.out
      have hcz23_0 : wc.cell? ⟨gb615, 0, none⟩ = some (.int .i64 a1_0) := (blk_cell BK615.out 0).trans rfl
      have hcz23_1 : wc.cell? ⟨gb615, 1, none⟩ = some (.int .i64 a1_1) := (blk_cell BK615.out 1).trans rfl
      have hcz23_2 : wc.cell? ⟨gb615, 2, none⟩ = some (.int .i64 a1_2) := (blk_cell BK615.out 2).trans rfl
      have hcz23_3 : wc.cell? ⟨gb615, 3, none⟩ = some (.bool false) := (blk_cell BK615.out 3).trans rfl
      have hfz23_0 := blk_frozen BK615.out 0
      have hfz23_1 := blk_frozen BK615.out 1
      have hfz23_2 := blk_frozen BK615.out 2
      have hfz23_3 := blk_frozen BK615.out 3
      have hcz24_0 : wc.cell? ⟨gb616, 0, none⟩ = some (.int .i64 a2_0) := (blk_cell BK616.out 0).trans rfl
      have hcz24_1 : wc.cell? ⟨gb616, 1, none⟩ = some (.int .i64 a2_1) := (blk_cell BK616.out 1).trans rfl
      have hcz24_2 : wc.cell? ⟨gb616, 2, none⟩ = some (.int .i64 a2_2) := (blk_cell BK616.out 2).trans rfl
      have hcz24_3 : wc.cell? ⟨gb616, 3, none⟩ = some (.bool true) := (blk_cell BK616.out 3).trans rfl
      have hfz24_0 := blk_frozen BK616.out 0
      have hfz24_1 := blk_frozen BK616.out 1
      have hfz24_2 := blk_frozen BK616.out 2
      have hfz24_3 := blk_frozen BK616.out 3
      go_wp2_with (first | ((with_reducible refine gate_callee (f := 110) rfl ?_); refine goesL_ (some 31) rfl rfl Try.func110 (by kernel_rfl) rfl #[.int .i64 a0, .agg #[.int .i64 a2_0, .int .i64 a2_1, .int .i64 a2_2], .agg #[.int .i64 a1_0, .int .i64 a1_1, .int .i64 a1_2]] rfl (by (try simp only [List.map_toArray, List.map_cons, List.map_nil]); first | done | rfl | (simp only [List.length_drop, List.length_take]; rfl)) ?_; (with_reducible refine (spec_l01Holds.calls kj3 a0 a2_0 a2_1 a2_2 a1_0 a1_1 a1_2 t618 _ A21.out).mono ?_); rintro e w25 ⟨rfl, hb⟩; refine ⟨_, rfl, ?_⟩; replace BK615 := bb_ BK615 hb; replace BK616 := bb_ BK616 hb; replace HB := bt_ HB hb; (try clear hb); (try clear hb2); (try clear hk); (try clear hi)))
      go_ret
      exact ⟨by first | rfl | (simp [errW_none, errW_some] <;> rfl) | (simp [*, errW_none, errW_some] <;> rfl), by repeat (first | (with_reducible first | exact HB.out | apply below_alloc | apply pw_below_drewN | apply below_drew1 | refine below_set ?_ GE615.out | refine below_set ?_ GE616.out) | exact HB.out)⟩
     ·replace c20 := Bool.eq_false_iff.mpr c20
      subst c20
      have H1 : ((spec_l01Holds.f kj3 a0 a1_0 a1_1 a1_2 a2_0 a2_1 a2_2).bind fun t619 => (if t619 = true then (some false) else ((spec_l01Holds.f kj3 a0 a2_0 a2_1 a2_2 a1_0 a1_1 a1_2).bind fun t620 => (some (!t620))))) = some r := by rw [if_neg (show ¬ (false = true) by decide)] at H; exact H
      clear H
      have H := H1
      clear H1
      replace H := Option.bind_eq_some_iff.mp H
      obtain ⟨t619, A260, H⟩ := H
      have A26 := Aside0.mk A260
      clear A260
      by_cases c27 : t619 = true
      ·subst c27
       have H1 : (some false) = some r := by rw [if_pos rfl] at H; exact H
       clear H
       have H := H1
       clear H1
       obtain rfl := Option.some.inj H
       have hnb28 := NB615_616.out
       have hnc28 := NB616_615.out
       have hcz29_0 : wc.cell? ⟨gb615, 0, none⟩ = some (.int .i64 a1_0) := (blk_cell BK615.out 0).trans rfl
       have hcz29_1 : wc.cell? ⟨gb615, 1, none⟩ = some (.int .i64 a1_1) := (blk_cell BK615.out 1).trans rfl
       have hcz29_2 : wc.cell? ⟨gb615, 2, none⟩ = some (.int .i64 a1_2) := (blk_cell BK615.out 2).trans rfl
       have hcz29_3 : wc.cell? ⟨gb615, 3, none⟩ = some (.bool false) := (blk_cell BK615.out 3).trans rfl
       have hfz29_0 := blk_frozen BK615.out 0
       have hfz29_1 := blk_frozen BK615.out 1
       have hfz29_2 := blk_frozen BK615.out 2
       have hfz29_3 := blk_frozen BK615.out 3
       have hcz30_0 : wc.cell? ⟨gb616, 0, none⟩ = some (.int .i64 a2_0) := (blk_cell BK616.out 0).trans rfl
       have hcz30_1 : wc.cell? ⟨gb616, 1, none⟩ = some (.int .i64 a2_1) := (blk_cell BK616.out 1).trans rfl
       have hcz30_2 : wc.cell? ⟨gb616, 2, none⟩ = some (.int .i64 a2_2) := (blk_cell BK616.out 2).trans rfl
       have hcz30_3 : wc.cell? ⟨gb616, 3, none⟩ = some (.bool false) := (blk_cell BK616.out 3).trans rfl
       have hfz30_0 := blk_frozen BK616.out 0
       have hfz30_1 := blk_frozen BK616.out 1
       have hfz30_2 := blk_frozen BK616.out 2
       have hfz30_3 := blk_frozen BK616.out 3
       go_wp2_with (first | ((with_reducible refine gate_callee (f := 110) rfl ?_); refine goesL_ (some 37) rfl rfl Try.func110 (by kernel_rfl) rfl #[.int .i64 a0, .agg #[.int .i64 a1_0, .int .i64 a1_1, .int .i64 a1_2], .agg #[.int .i64 a2_0, .int .i64 a2_1, .int .i64 a2_2]] rfl (by (try simp only [List.map_toArray, List.map_cons, List.map_nil]); first | done | rfl | (simp only [List.length_drop, List.length_take]; rfl)) ?_; (with_reducible refine (spec_l01Holds.calls kj3 a0 a1_0 a1_1 a1_2 a2_0 a2_1 a2_2 true _ A26.out).mono ?_); rintro e w31 ⟨rfl, hb⟩; refine ⟨_, rfl, ?_⟩; replace BK615 := bb_ BK615 hb; replace BK616 := bb_ BK616 hb; replace HB := bt_ HB hb; (try clear hb); (try clear hb2); (try clear hk); (try clear hi)))
       go_ret
       exact ⟨by first | rfl | (simp [errW_none, errW_some] <;> rfl) | (simp [*, errW_none, errW_some] <;> rfl), by repeat (first | (with_reducible first | exact HB.out | apply below_alloc | apply pw_below_drewN | apply below_drew1 | refine below_set ?_ GE615.out | refine below_set ?_ GE616.out) | exact HB.out)⟩
      ·replace c27 := Bool.eq_false_iff.mpr c27
       subst c27
       have H1 : ((spec_l01Holds.f kj3 a0 a2_0 a2_1 a2_2 a1_0 a1_1 a1_2).bind fun t620 => (some (!t620))) = some r := by rw [if_neg (show ¬ (false = true) by decide)] at H; exact H
       clear H
       have H := H1
       clear H1
       replace H := Option.bind_eq_some_iff.mp H
       obtain ⟨t620, A320, H⟩ := H
       have A32 := Aside0.mk A320
       clear A320
       obtain rfl := Option.some.inj H
       have hnb33 := NB615_616.out
       have hnc33 := NB616_615.out
       have hcz34_0 : wc.cell? ⟨gb615, 0, none⟩ = some (.int .i64 a1_0) := (blk_cell BK615.out 0).trans rfl
       have hcz34_1 : wc.cell? ⟨gb615, 1, none⟩ = some (.int .i64 a1_1) := (blk_cell BK615.out 1).trans rfl
       have hcz34_2 : wc.cell? ⟨gb615, 2, none⟩ = some (.int .i64 a1_2) := (blk_cell BK615.out 2).trans rfl
       have hcz34_3 : wc.cell? ⟨gb615, 3, none⟩ = some (.bool false) := (blk_cell BK615.out 3).trans rfl
       have hfz34_0 := blk_frozen BK615.out 0
       have hfz34_1 := blk_frozen BK615.out 1
       have hfz34_2 := blk_frozen BK615.out 2
       have hfz34_3 := blk_frozen BK615.out 3
       have hcz35_0 : wc.cell? ⟨gb616, 0, none⟩ = some (.int .i64 a2_0) := (blk_cell BK616.out 0).trans rfl
       have hcz35_1 : wc.cell? ⟨gb616, 1, none⟩ = some (.int .i64 a2_1) := (blk_cell BK616.out 1).trans rfl
       have hcz35_2 : wc.cell? ⟨gb616, 2, none⟩ = some (.int .i64 a2_2) := (blk_cell BK616.out 2).trans rfl
       have hcz35_3 : wc.cell? ⟨gb616, 3, none⟩ = some (.bool false) := (blk_cell BK616.out 3).trans rfl
       have hfz35_0 := blk_frozen BK616.out 0
       have hfz35_1 := blk_frozen BK616.out 1
       have hfz35_2 := blk_frozen BK616.out 2
       have hfz35_3 := blk_frozen BK616.out 3
       go_wp2_with (first | ((with_reducible refine gate_callee (f := 110) rfl ?_); refine goesL_ (some 37) rfl rfl Try.func110 (by kernel_rfl) rfl #[.int .i64 a0, .agg #[.int .i64 a1_0, .int .i64 a1_1, .int .i64 a1_2], .agg #[.int .i64 a2_0, .int .i64 a2_1, .int .i64 a2_2]] rfl (by (try simp only [List.map_toArray, List.map_cons, List.map_nil]); first | done | rfl | (simp only [List.length_drop, List.length_take]; rfl)) ?_; (with_reducible refine (spec_l01Holds.calls kj3 a0 a1_0 a1_1 a1_2 a2_0 a2_1 a2_2 false _ A26.out).mono ?_); rintro e w36 ⟨rfl, hb⟩; refine ⟨_, rfl, ?_⟩; replace BK615 := bb_ BK615 hb; replace BK616 := bb_ BK616 hb; replace HB := bt_ HB hb; (try clear hb); (try clear hb2); (try clear hk); (try clear hi); have hcz37_0 : w36.cell? ⟨gb616, 0, none⟩ = some (.int .i64 a2_0) := (blk_cell BK616.out 0).trans rfl; have hcz37_1 : w36.cell? ⟨gb616, 1, none⟩ = some (.int .i64 a2_1) := (blk_cell BK616.out 1).trans rfl; have hcz37_2 : w36.cell? ⟨gb616, 2, none⟩ = some (.int .i64 a2_2) := (blk_cell BK616.out 2).trans rfl; have hcz37_3 : w36.cell? ⟨gb616, 3, none⟩ = some (.bool false) := (blk_cell BK616.out 3).trans rfl; have hfz37_0 := blk_frozen BK616.out 0; have hfz37_1 := blk_frozen BK616.out 1; have hfz37_2 := blk_frozen BK616.out 2; have hfz37_3 := blk_frozen BK616.out 3; have hcz38_0 : w36.cell? ⟨gb615, 0, none⟩ = some (.int .i64 a1_0) := (blk_cell BK615.out 0).trans rfl; have hcz38_1 : w36.cell? ⟨gb615, 1, none⟩ = some (.int .i64 a1_1) := (blk_cell BK615.out 1).trans rfl; have hcz38_2 : w36.cell? ⟨gb615, 2, none⟩ = some (.int .i64 a1_2) := (blk_cell BK615.out 2).trans rfl; have hcz38_3 : w36.cell? ⟨gb615, 3, none⟩ = some (.bool false) := (blk_cell BK615.out 3).trans rfl; have hfz38_0 := blk_frozen BK615.out 0; have hfz38_1 := blk_frozen BK615.out 1; have hfz38_2 := blk_frozen BK615.out 2; have hfz38_3 := blk_frozen BK615.out 3) | (go_at_call 110; (with_reducible refine (spec_l01Holds.calls kj3 a0 a2_0 a2_1 a2_2 a1_0 a1_1 a1_2 t620 _ A32.out).mono ?_); rintro e w39 ⟨rfl, hb⟩; replace BK615 := bb_ BK615 hb; replace BK616 := bb_ BK616 hb; replace HB := bt_ HB hb; (try clear hb); (try clear hb2); (try clear hk); (try clear hi)))
       go_ret
       exact ⟨by first | rfl | (simp [errW_none, errW_some] <;> rfl) | (simp [*, errW_none, errW_some] <;> rfl), by repeat (first | (with_reducible first | exact HB.out | apply below_alloc | apply pw_below_drewN | apply below_drew1 | refine below_set ?_ GE615.out | refine below_set ?_ GE616.out) | exact HB.out)⟩
end Go.Proofs.Ytojpcbbmbnmchaa.QC
