-- Written by a program of this session out of Lean's own print of the loaded program; Lean checks it.
import Derived.Test.YtojpcbbmbnmchaaQCx4
import Derived.Test.YtojpcbbmbnmchaaQCx93
namespace Go.Proofs.Ytojpcbbmbnmchaa.QC
open Go.RowKit Go.Proofs.YtojpcbbmbnmchaaW.PrintWords Go.Proofs.YtojpcbbmbnmchaaW.PrintLast Go.Proofs.YtojpcbbmbnmchaaW.PrintMore
attribute [local go_sem] isSome_setCell max2_int min2_int max_two min_two max_three min_three max_four min_four   -- for this text's walks alone
set_option linter.unusedVariables false
set_option linter.unusedSimpArgs false

/-! ### impl_apartSides: function 111 -/
def impl_apartSides.j0 : Nat → Int → Bool → Int → Int → Int → Bool → Int → Int → Int → Bool → Option (Bool)
 | 0, _, _, _, _, _, _, _, _, _, _ => none
 | k + 1, x0, x7, x705000, x705001, x705002, x705003, x706000, x706001, x706002, x706003 => if x7 = true then (some false) else (if x705003 = true then ((impl_holds.f k x0 x705000 x705001 x705002 x706000 x706001 x706002).bind fun t706 => (some t706)) else (if x706003 = true then ((impl_holds.f k x0 x706000 x706001 x706002 x705000 x705001 x705002).bind fun t707 => (some t707)) else ((impl_apart.f k x0 x705000 x705001 x705002 x706000 x706001 x706002).bind fun t708 => (some t708))))
def impl_apartSides.f (k : Nat) (a0 : Int) (a1_0 : Int) (a1_1 : Int) (a1_2 : Int) (a1_3 : Bool) (a2_0 : Int) (a2_1 : Int) (a2_2 : Int) (a2_3 : Bool) : Option (Bool) := if a1_3 = true then (impl_apartSides.j0 k a0 a2_3 a1_0 a1_1 a1_2 a1_3 a2_0 a2_1 a2_2 a2_3) else (impl_apartSides.j0 k a0 false a1_0 a1_1 a1_2 a1_3 a2_0 a2_1 a2_2 a2_3)
set_option maxHeartbeats 8000000 in
set_option maxRecDepth 100000 in
theorem impl_apartSides.calls (k : Nat) (a0 : Int) (a1_0 : Int) (a1_1 : Int) (a1_2 : Int) (a1_3 : Bool) (a2_0 : Int) (a2_1 : Int) (a2_2 : Int) (a2_3 : Bool) (r : Bool) (w : World) (h : impl_apartSides.f k a0 a1_0 a1_1 a1_2 a1_3 a2_0 a2_1 a2_2 a2_3 = some r) :
  Calls Try.prog 111 #[.int .i64 a0, .agg #[.int .i64 a1_0, .int .i64 a1_1, .int .i64 a1_2, .bool a1_3], .agg #[.int .i64 a2_0, .int .i64 a2_1, .int .i64 a2_2, .bool a2_3]] w fun e w' => e = .returned (.bool r) ∧ Below w.heap.size w w' := by
 have hu30 := Try.underlying30
 have hu28 := Try.underlying28
 have HB := Aside0.mk (Below.refl w.heap.size w)
 have H : (if a1_3 = true then (impl_apartSides.j0 k a0 a2_3 a1_0 a1_1 a1_2 a1_3 a2_0 a2_1 a2_2 a2_3) else (impl_apartSides.j0 k a0 false a1_0 a1_1 a1_2 a1_3 a2_0 a2_1 a2_2 a2_3)) = some r := h
 clear h
 have HC4 := Aside0.mk H
 clear H
 go_enter Try.func111, Try.ntmps111
 go_upto_region 1 with (first | ((with_reducible refine gate_dst (N := 4) rfl ?_); refine bx_ 4 #[.int .i64 a1_0, .int .i64 a1_1, .int .i64 a1_2, .bool a1_3] 30 ?_; intro gb704 hg w5 hbox hb; have BK704 := Aside0.mk (hbox); have GW704 := bs_ HB hg; have GE704 := bs_ HB hg; replace HB := bt_ HB hb; clear hb hbox hg) | ((with_reducible refine gate_dst (N := 5) rfl ?_); refine bx_ 5 #[.int .i64 a2_0, .int .i64 a2_1, .int .i64 a2_2, .bool a2_3] 30 ?_; intro gb705 hg w6 hbox hb; have BK705 := Aside0.mk (hbox); have GW705 := bs_ HB hg; have GE705 := bs_ HB hg; have NB704_705 := bm_ BK704 hg; have NB705_704 := bn_ BK704 hg; replace BK704 := bb_ BK704 hb; replace HB := bt_ HB hb; clear hb hbox hg))
 (try simp only [Act.put, lstS, lstZ, lstC])
 go_cut [7] (fun v7 wc => ∃ (kq : Nat) (x7_3 : Bool), v7 = .bool x7_3 ∧ Aside0 (impl_apartSides.j0 kq a0 x7_3 a1_0 a1_1 a1_2 a1_3 a2_0 a2_1 a2_2 a2_3 = some r) ∧ Aside0 (kq ≤ k) ∧ Aside0 (wc.heap[gb704]? = some (.cells #[.int .i64 a1_0, .int .i64 a1_1, .int .i64 a1_2, .bool a1_3] 30 (0, 0))) ∧ Aside0 (wc.heap[gb705]? = some (.cells #[.int .i64 a2_0, .int .i64 a2_1, .int .i64 a2_2, .bool a2_3] 30 (0, 0))) ∧ Aside0 (Below w.heap.size w wc))
 case first =>
  have H := HC4.out
  clear HC4
  by_cases c7 : a1_3 = true
  ·subst c7
   have H1 : (impl_apartSides.j0 k a0 a2_3 a1_0 a1_1 a1_2 true a2_0 a2_1 a2_2 a2_3) = some r := by rw [if_pos rfl] at H; exact H
   clear H
   have H := H1
   clear H1
   have H' := Aside0.mk H
   clear H
   have hnb8 := NB704_705.out
   have hnc8 := NB705_704.out
   have hcz9_0 : w6.cell? ⟨gb704, 0, none⟩ = some (.int .i64 a1_0) := (blk_cell BK704.out 0).trans rfl
   have hcz9_1 : w6.cell? ⟨gb704, 1, none⟩ = some (.int .i64 a1_1) := (blk_cell BK704.out 1).trans rfl
   have hcz9_2 : w6.cell? ⟨gb704, 2, none⟩ = some (.int .i64 a1_2) := (blk_cell BK704.out 2).trans rfl
   have hcz9_3 : w6.cell? ⟨gb704, 3, none⟩ = some (.bool true) := (blk_cell BK704.out 3).trans rfl
   have hfz9_0 := blk_frozen BK704.out 0
   have hfz9_1 := blk_frozen BK704.out 1
   have hfz9_2 := blk_frozen BK704.out 2
   have hfz9_3 := blk_frozen BK704.out 3
   have hcz10_0 : w6.cell? ⟨gb705, 0, none⟩ = some (.int .i64 a2_0) := (blk_cell BK705.out 0).trans rfl
   have hcz10_1 : w6.cell? ⟨gb705, 1, none⟩ = some (.int .i64 a2_1) := (blk_cell BK705.out 1).trans rfl
   have hcz10_2 : w6.cell? ⟨gb705, 2, none⟩ = some (.int .i64 a2_2) := (blk_cell BK705.out 2).trans rfl
   have hcz10_3 : w6.cell? ⟨gb705, 3, none⟩ = some (.bool a2_3) := (blk_cell BK705.out 3).trans rfl
   have hfz10_0 := blk_frozen BK705.out 0
   have hfz10_1 := blk_frozen BK705.out 1
   have hfz10_2 := blk_frozen BK705.out 2
   have hfz10_3 := blk_frozen BK705.out 3
   go_wp2
   go_meet
   case rel => exact ⟨_, (a2_3), (by first | rfl | (simp; done) | (simp [*]; done) | (simp [wrap64]; done)), H', ⟨by first | omega | exact Nat.le_refl _⟩, bl_ BK704, bl_ BK705, bw_ HB⟩
  ·replace c7 := Bool.eq_false_iff.mpr c7
   subst c7
   have H1 : (impl_apartSides.j0 k a0 false a1_0 a1_1 a1_2 false a2_0 a2_1 a2_2 a2_3) = some r := by rw [if_neg (show ¬ (false = true) by decide)] at H; exact H
   clear H
   have H := H1
   clear H1
   have H' := Aside0.mk H
   clear H
   have hnb11 := NB704_705.out
   have hnc11 := NB705_704.out
   have hcz12_0 : w6.cell? ⟨gb704, 0, none⟩ = some (.int .i64 a1_0) := (blk_cell BK704.out 0).trans rfl
   have hcz12_1 : w6.cell? ⟨gb704, 1, none⟩ = some (.int .i64 a1_1) := (blk_cell BK704.out 1).trans rfl
   have hcz12_2 : w6.cell? ⟨gb704, 2, none⟩ = some (.int .i64 a1_2) := (blk_cell BK704.out 2).trans rfl
   have hcz12_3 : w6.cell? ⟨gb704, 3, none⟩ = some (.bool false) := (blk_cell BK704.out 3).trans rfl
   have hfz12_0 := blk_frozen BK704.out 0
   have hfz12_1 := blk_frozen BK704.out 1
   have hfz12_2 := blk_frozen BK704.out 2
   have hfz12_3 := blk_frozen BK704.out 3
   go_wp2
   go_meet
   case rel => exact ⟨_, (false), (by first | rfl | (simp; done) | (simp [*]; done) | (simp [wrap64]; done)), H', ⟨by first | omega | exact Nat.le_refl _⟩, bl_ BK704, bl_ BK705, bw_ HB⟩
 case rest =>
  clear HC4
  try clear c1
  try clear p2
  try clear c7
  try clear c8
  try clear c11
  try clear hcz10_0
  try clear hcz10_1
  try clear hcz10_2
  try clear hcz10_3
  try clear hcz12_0
  try clear hcz12_1
  try clear hcz12_2
  try clear hcz12_3
  try clear hcz9_0
  try clear hcz9_1
  try clear hcz9_2
  try clear hcz9_3
  try clear hfz10_0
  try clear hfz10_1
  try clear hfz10_2
  try clear hfz10_3
  try clear hfz12_0
  try clear hfz12_1
  try clear hfz12_2
  try clear hfz12_3
  try clear hfz9_0
  try clear hfz9_1
  try clear hfz9_2
  try clear hfz9_3
  obtain ⟨kq, x7_3, rfl, HA, HJ3, BK704, BK705, HB⟩ := hcut
  cases kq with
  | zero => exact absurd HA.out (by simp [impl_apartSides.j0])
  | succ kj3 =>
   have H := HA.out
   clear HA
   simp only [impl_apartSides.j0] at H
   by_cases c13 : x7_3 = true
   ·subst c13
    have H1 : (some false) = some r := by rw [if_pos rfl] at H; exact H
    clear H
    have H := H1
    clear H1
    obtain rfl := Option.some.inj H
    go_wp2
    go_ret
    exact ⟨by first | rfl | (simp [errW_none, errW_some] <;> rfl) | (simp [*, errW_none, errW_some] <;> rfl), by repeat (first | (with_reducible first | exact HB.out | apply below_alloc | apply pw_below_drewN | apply below_drew1 | refine below_set ?_ GE704.out | refine below_set ?_ GE705.out) | exact HB.out)⟩
   ·replace c13 := Bool.eq_false_iff.mpr c13
    subst c13
    have H1 : (if a1_3 = true then ((impl_holds.f kj3 a0 a1_0 a1_1 a1_2 a2_0 a2_1 a2_2).bind fun t706 => (some t706)) else (if a2_3 = true then ((impl_holds.f kj3 a0 a2_0 a2_1 a2_2 a1_0 a1_1 a1_2).bind fun t707 => (some t707)) else ((impl_apart.f kj3 a0 a1_0 a1_1 a1_2 a2_0 a2_1 a2_2).bind fun t708 => (some t708)))) = some r := by rw [if_neg (show ¬ (false = true) by decide)] at H; exact H
    clear H
    have H := H1
    clear H1
    by_cases c14 : a1_3 = true
    ·subst c14
     have H1 : ((impl_holds.f kj3 a0 a1_0 a1_1 a1_2 a2_0 a2_1 a2_2).bind fun t706 => (some t706)) = some r := by rw [if_pos rfl] at H; exact H
     clear H
     have H := H1
     clear H1
     replace H := Option.bind_eq_some_iff.mp H
     obtain ⟨t706, A150, H⟩ := H
     have A15 := Aside0.mk A150
     clear A150
     obtain rfl := Option.some.inj H
     have hnb16 := NB704_705.out
     have hnc16 := NB705_704.out
     have hcz17_0 : wc.cell? ⟨gb704, 0, none⟩ = some (.int .i64 a1_0) := (blk_cell BK704.out 0).trans rfl
     have hcz17_1 : wc.cell? ⟨gb704, 1, none⟩ = some (.int .i64 a1_1) := (blk_cell BK704.out 1).trans rfl
     have hcz17_2 : wc.cell? ⟨gb704, 2, none⟩ = some (.int .i64 a1_2) := (blk_cell BK704.out 2).trans rfl
     have hcz17_3 : wc.cell? ⟨gb704, 3, none⟩ = some (.bool true) := (blk_cell BK704.out 3).trans rfl
     have hfz17_0 := blk_frozen BK704.out 0
     have hfz17_1 := blk_frozen BK704.out 1
     have hfz17_2 := blk_frozen BK704.out 2
     have hfz17_3 := blk_frozen BK704.out 3
     have hcz18_0 : wc.cell? ⟨gb705, 0, none⟩ = some (.int .i64 a2_0) := (blk_cell BK705.out 0).trans rfl
     have hcz18_1 : wc.cell? ⟨gb705, 1, none⟩ = some (.int .i64 a2_1) := (blk_cell BK705.out 1).trans rfl
     have hcz18_2 : wc.cell? ⟨gb705, 2, none⟩ = some (.int .i64 a2_2) := (blk_cell BK705.out 2).trans rfl
     have hcz18_3 : wc.cell? ⟨gb705, 3, none⟩ = some (.bool a2_3) := (blk_cell BK705.out 3).trans rfl
     have hfz18_0 := blk_frozen BK705.out 0
     have hfz18_1 := blk_frozen BK705.out 1
     have hfz18_2 := blk_frozen BK705.out 2
     have hfz18_3 := blk_frozen BK705.out 3
     go_wp2_with (first | ((with_reducible refine gate_callee (f := 117) rfl ?_); refine goesL_ (some 22) rfl rfl Try.func117 (by kernel_rfl) rfl #[.int .i64 a0, .agg #[.int .i64 a1_0, .int .i64 a1_1, .int .i64 a1_2], .agg #[.int .i64 a2_0, .int .i64 a2_1, .int .i64 a2_2]] rfl (by (try simp only [List.map_toArray, List.map_cons, List.map_nil]); first | done | rfl | (simp only [List.length_drop, List.length_take]; rfl)) ?_; (with_reducible refine (impl_holds.calls kj3 a0 a1_0 a1_1 a1_2 a2_0 a2_1 a2_2 t706 _ A15.out).mono ?_); rintro e w19 ⟨rfl, hb⟩; refine ⟨_, rfl, ?_⟩; replace BK704 := bb_ BK704 hb; replace BK705 := bb_ BK705 hb; replace HB := bt_ HB hb; (try clear hb); (try clear hb2); (try clear hk); (try clear hi)))
     go_ret
     exact ⟨by first | rfl | (simp [errW_none, errW_some] <;> rfl) | (simp [*, errW_none, errW_some] <;> rfl), by repeat (first | (with_reducible first | exact HB.out | apply below_alloc | apply pw_below_drewN | apply below_drew1 | refine below_set ?_ GE704.out | refine below_set ?_ GE705.out) | exact HB.out)⟩
    ·replace c14 := Bool.eq_false_iff.mpr c14
     subst c14
     have H1 : (if a2_3 = true then ((impl_holds.f kj3 a0 a2_0 a2_1 a2_2 a1_0 a1_1 a1_2).bind fun t707 => (some t707)) else ((impl_apart.f kj3 a0 a1_0 a1_1 a1_2 a2_0 a2_1 a2_2).bind fun t708 => (some t708))) = some r := by rw [if_neg (show ¬ (false = true) by decide)] at H; exact H
     clear H
     have H := H1
     clear H1
     by_cases c20 : a2_3 = true
     ·subst c20
      have H1 : ((impl_holds.f kj3 a0 a2_0 a2_1 a2_2 a1_0 a1_1 a1_2).bind fun t707 => (some t707)) = some r := by rw [if_pos rfl] at H; exact H
      clear H
      have H := H1
      clear H1
      replace H := Option.bind_eq_some_iff.mp H
      obtain ⟨t707, A210, H⟩ := H
      have A21 := Aside0.mk A210
      clear A210
      obtain rfl := Option.some.inj H
      have hnb22 := NB704_705.out
      have hnc22 := NB705_704.out
      have hcz23_0 : wc.cell? ⟨gb704, 0, none⟩ = some (.int .i64 a1_0) := (blk_cell BK704.out 0).trans rfl
      have hcz23_1 : wc.cell? ⟨gb704, 1, none⟩ = some (.int .i64 a1_1) := (blk_cell BK704.out 1).trans rfl
      have hcz23_2 : wc.cell? ⟨gb704, 2, none⟩ = some (.int .i64 a1_2) := (blk_cell BK704.out 2).trans rfl
      have hcz23_3 : wc.cell? ⟨gb704, 3, none⟩ = some (.bool false) := (blk_cell BK704.out 3).trans rfl
      have hfz23_0 := blk_frozen BK704.out 0
      have hfz23_1 := blk_frozen BK704.out 1
      have hfz23_2 := blk_frozen BK704.out 2
      have hfz23_3 := blk_frozen BK704.out 3
      have hcz24_0 : wc.cell? ⟨gb705, 0, none⟩ = some (.int .i64 a2_0) := (blk_cell BK705.out 0).trans rfl
      have hcz24_1 : wc.cell? ⟨gb705, 1, none⟩ = some (.int .i64 a2_1) := (blk_cell BK705.out 1).trans rfl
      have hcz24_2 : wc.cell? ⟨gb705, 2, none⟩ = some (.int .i64 a2_2) := (blk_cell BK705.out 2).trans rfl
      have hcz24_3 : wc.cell? ⟨gb705, 3, none⟩ = some (.bool true) := (blk_cell BK705.out 3).trans rfl
      have hfz24_0 := blk_frozen BK705.out 0
      have hfz24_1 := blk_frozen BK705.out 1
      have hfz24_2 := blk_frozen BK705.out 2
      have hfz24_3 := blk_frozen BK705.out 3
      go_wp2_with (first | ((with_reducible refine gate_callee (f := 117) rfl ?_); refine goesL_ (some 31) rfl rfl Try.func117 (by kernel_rfl) rfl #[.int .i64 a0, .agg #[.int .i64 a2_0, .int .i64 a2_1, .int .i64 a2_2], .agg #[.int .i64 a1_0, .int .i64 a1_1, .int .i64 a1_2]] rfl (by (try simp only [List.map_toArray, List.map_cons, List.map_nil]); first | done | rfl | (simp only [List.length_drop, List.length_take]; rfl)) ?_; (with_reducible refine (impl_holds.calls kj3 a0 a2_0 a2_1 a2_2 a1_0 a1_1 a1_2 t707 _ A21.out).mono ?_); rintro e w25 ⟨rfl, hb⟩; refine ⟨_, rfl, ?_⟩; replace BK704 := bb_ BK704 hb; replace BK705 := bb_ BK705 hb; replace HB := bt_ HB hb; (try clear hb); (try clear hb2); (try clear hk); (try clear hi)))
      go_ret
      exact ⟨by first | rfl | (simp [errW_none, errW_some] <;> rfl) | (simp [*, errW_none, errW_some] <;> rfl), by repeat (first | (with_reducible first | exact HB.out | apply below_alloc | apply pw_below_drewN | apply below_drew1 | refine below_set ?_ GE704.out | refine below_set ?_ GE705.out) | exact HB.out)⟩
     ·replace c20 := Bool.eq_false_iff.mpr c20
      subst c20
      have H1 : ((impl_apart.f kj3 a0 a1_0 a1_1 a1_2 a2_0 a2_1 a2_2).bind fun t708 => (some t708)) = some r := by rw [if_neg (show ¬ (false = true) by decide)] at H; exact H
      clear H
      have H := H1
      clear H1
      replace H := Option.bind_eq_some_iff.mp H
      obtain ⟨t708, A260, H⟩ := H
      have A26 := Aside0.mk A260
      clear A260
      obtain rfl := Option.some.inj H
      have hnb27 := NB704_705.out
      have hnc27 := NB705_704.out
      have hcz28_0 : wc.cell? ⟨gb704, 0, none⟩ = some (.int .i64 a1_0) := (blk_cell BK704.out 0).trans rfl
      have hcz28_1 : wc.cell? ⟨gb704, 1, none⟩ = some (.int .i64 a1_1) := (blk_cell BK704.out 1).trans rfl
      have hcz28_2 : wc.cell? ⟨gb704, 2, none⟩ = some (.int .i64 a1_2) := (blk_cell BK704.out 2).trans rfl
      have hcz28_3 : wc.cell? ⟨gb704, 3, none⟩ = some (.bool false) := (blk_cell BK704.out 3).trans rfl
      have hfz28_0 := blk_frozen BK704.out 0
      have hfz28_1 := blk_frozen BK704.out 1
      have hfz28_2 := blk_frozen BK704.out 2
      have hfz28_3 := blk_frozen BK704.out 3
      have hcz29_0 : wc.cell? ⟨gb705, 0, none⟩ = some (.int .i64 a2_0) := (blk_cell BK705.out 0).trans rfl
      have hcz29_1 : wc.cell? ⟨gb705, 1, none⟩ = some (.int .i64 a2_1) := (blk_cell BK705.out 1).trans rfl
      have hcz29_2 : wc.cell? ⟨gb705, 2, none⟩ = some (.int .i64 a2_2) := (blk_cell BK705.out 2).trans rfl
      have hcz29_3 : wc.cell? ⟨gb705, 3, none⟩ = some (.bool false) := (blk_cell BK705.out 3).trans rfl
      have hfz29_0 := blk_frozen BK705.out 0
      have hfz29_1 := blk_frozen BK705.out 1
      have hfz29_2 := blk_frozen BK705.out 2
      have hfz29_3 := blk_frozen BK705.out 3
      go_wp2_with (first | ((with_reducible refine gate_callee (f := 118) rfl ?_); refine goesL_ (some 37) rfl rfl Try.func118 (by kernel_rfl) rfl #[.int .i64 a0, .agg #[.int .i64 a1_0, .int .i64 a1_1, .int .i64 a1_2], .agg #[.int .i64 a2_0, .int .i64 a2_1, .int .i64 a2_2]] rfl (by (try simp only [List.map_toArray, List.map_cons, List.map_nil]); first | done | rfl | (simp only [List.length_drop, List.length_take]; rfl)) ?_; (with_reducible refine (impl_apart.calls kj3 a0 a1_0 a1_1 a1_2 a2_0 a2_1 a2_2 t708 _ A26.out).mono ?_); rintro e w30 ⟨rfl, hb⟩; refine ⟨_, rfl, ?_⟩; replace BK704 := bb_ BK704 hb; replace BK705 := bb_ BK705 hb; replace HB := bt_ HB hb; (try clear hb); (try clear hb2); (try clear hk); (try clear hi)))
      go_ret
      exact ⟨by first | rfl | (simp [errW_none, errW_some] <;> rfl) | (simp [*, errW_none, errW_some] <;> rfl), by repeat (first | (with_reducible first | exact HB.out | apply below_alloc | apply pw_below_drewN | apply below_drew1 | refine below_set ?_ GE704.out | refine below_set ?_ GE705.out) | exact HB.out)⟩
/-! ### impl_opposite: function 112 -/
def impl_opposite.f (a0_0 : Int) (a0_1 : Int) (a0_2 : Int) (a0_3 : Bool) : Option (Int × Int × Int × Bool) := some (a0_0, a0_1, a0_2, !a0_3)
set_option maxHeartbeats 8000000 in
set_option maxRecDepth 100000 in
theorem impl_opposite.calls (a0_0 : Int) (a0_1 : Int) (a0_2 : Int) (a0_3 : Bool) (r1 : Int) (r2 : Int) (r3 : Int) (r4 : Bool) (w : World) (h : impl_opposite.f a0_0 a0_1 a0_2 a0_3 = some (r1, r2, r3, r4)) :
  Calls Try.prog 112 #[.agg #[.int .i64 a0_0, .int .i64 a0_1, .int .i64 a0_2, .bool a0_3]] w fun e w' => e = .returned (.agg #[.int .i64 r1, .int .i64 r2, .int .i64 r3, .bool r4]) ∧ Below w.heap.size w w' := by
 have hu30 := Try.underlying30
 have hu28 := Try.underlying28
 have HB := Aside0.mk (Below.refl w.heap.size w)
 have H : (some (a0_0, a0_1, a0_2, !a0_3)) = some (r1, r2, r3, r4) := h
 clear h
 simp only [Option.some.injEq, Prod.mk.injEq] at H
 obtain ⟨rfl, rfl, rfl, rfl⟩ := H
 go_enter Try.func112, Try.ntmps112
 go_wp2_with (first | ((with_reducible refine gate_dst (N := 1) rfl ?_); refine bx_ 1 #[.int .i64 a0_0, .int .i64 a0_1, .int .i64 a0_2, .bool a0_3] 30 ?_; intro gb709 hg w2 hbox hb; have BK709 := Aside0.mk (hbox); have GW709 := bs_ HB hg; have GE709 := bs_ HB hg; replace HB := bt_ HB hb; clear hb hbox hg) | ((with_reducible refine gate_dst (N := 2) rfl ?_); refine bx_ 2 #[.int .i64 0, .int .i64 0, .int .i64 0, .bool false] 30 ?_; intro gb710 hg w3 hbox hb; have BK710 := Aside0.mk (hbox); have GW710 := bs_ HB hg; have GE710 := bs_ HB hg; have NB709_710 := bm_ BK709 hg; have NB710_709 := bn_ BK709 hg; replace BK709 := bb_ BK709 hb; replace HB := bt_ HB hb; clear hb hbox hg; have hnb4 := NB709_710.out; have hnc4 := NB710_709.out; have hcz5_0 : w3.cell? ⟨gb709, 0, none⟩ = some (.int .i64 a0_0) := (blk_cell BK709.out 0).trans rfl; have hcz5_1 : w3.cell? ⟨gb709, 1, none⟩ = some (.int .i64 a0_1) := (blk_cell BK709.out 1).trans rfl; have hcz5_2 : w3.cell? ⟨gb709, 2, none⟩ = some (.int .i64 a0_2) := (blk_cell BK709.out 2).trans rfl; have hcz5_3 : w3.cell? ⟨gb709, 3, none⟩ = some (.bool a0_3) := (blk_cell BK709.out 3).trans rfl; have hfz5_0 := blk_frozen BK709.out 0; have hfz5_1 := blk_frozen BK709.out 1; have hfz5_2 := blk_frozen BK709.out 2; have hfz5_3 := blk_frozen BK709.out 3; have hcz6_0 : w3.cell? ⟨gb710, 0, none⟩ = some (.int .i64 0) := (blk_cell BK710.out 0).trans rfl; have hcz6_1 : w3.cell? ⟨gb710, 1, none⟩ = some (.int .i64 0) := (blk_cell BK710.out 1).trans rfl; have hcz6_2 : w3.cell? ⟨gb710, 2, none⟩ = some (.int .i64 0) := (blk_cell BK710.out 2).trans rfl; have hcz6_3 : w3.cell? ⟨gb710, 3, none⟩ = some (.bool false) := (blk_cell BK710.out 3).trans rfl; have hfz6_0 := blk_frozen BK710.out 0; have hfz6_1 := blk_frozen BK710.out 1; have hfz6_2 := blk_frozen BK710.out 2; have hfz6_3 := blk_frozen BK710.out 3))
 refine bodyPost_ret (results_cell_row rfl _ _ gb710 30 #[.int .i64 a0_0, .int .i64 a0_1, .int .i64 a0_2, .bool (!a0_3)] (0, 0) _ rfl (by (with_reducible repeat first | apply blk_drewN | apply blk_drew | apply blk_alloc); refine blk_put (cs := #[.int .i64 a0_0, .int .i64 a0_1, .int .i64 a0_2, .bool false]) ?_ 3 _ rfl; (with_reducible repeat first | apply blk_drewN | apply blk_drew | apply blk_alloc); refine blk_put (cs := #[.int .i64 a0_0, .int .i64 a0_1, .int .i64 0, .bool false]) ?_ 2 _ rfl; (with_reducible repeat first | apply blk_drewN | apply blk_drew | apply blk_alloc); refine blk_put (cs := #[.int .i64 a0_0, .int .i64 0, .int .i64 0, .bool false]) ?_ 1 _ rfl; (with_reducible repeat first | apply blk_drewN | apply blk_drew | apply blk_alloc); refine blk_put (cs := #[.int .i64 0, .int .i64 0, .int .i64 0, .bool false]) ?_ 0 _ rfl; (with_reducible repeat first | apply blk_drewN | apply blk_drew | apply blk_alloc); exact BK710.out) Try.underlying30 rfl (by kernel_rfl)) rfl ?_
 exact ⟨by first | rfl | (simp [errW_none, errW_some] <;> rfl) | (simp [*, errW_none, errW_some] <;> rfl), by repeat (first | (with_reducible first | exact HB.out | apply below_alloc | apply pw_below_drewN | apply below_drew1 | refine below_set ?_ GE709.out | refine below_set ?_ GE710.out) | exact HB.out)⟩
end Go.Proofs.Ytojpcbbmbnmchaa.QC
