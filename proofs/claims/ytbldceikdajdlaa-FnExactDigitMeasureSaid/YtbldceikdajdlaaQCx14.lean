-- Written by a program of this session out of Lean's own print of the loaded program; Lean checks it.
import Derived.Test.YtbldceikdajdlaaQCx5
import Derived.Test.YtbldceikdajdlaaQCx9
namespace Go.Proofs.Ytbldceikdajdlaa.QC
open Go.RowKit Go.Proofs.YtbldceikdajdlaaW.PrintWords Go.Proofs.YtbldceikdajdlaaW.PrintLast Go.Proofs.YtbldceikdajdlaaW.PrintMore
attribute [local go_sem] isSome_setCell max2_int min2_int max_two min_two max_three min_three max_four min_four   -- for this text's walks alone
set_option linter.unusedVariables false
set_option linter.unusedSimpArgs false

/-! ### spec_l01InvMod: function 90 -/
def spec_l01InvMod.l0 : Nat → Int → Int → Int → Int → Int → Option (Int)
 | 0, _, _, _, _, _ => none
 | k + 1, x1, x5, x6, x7, x8 => if x6 = 0 then (if x1 = 0 then (none) else (some (Int.tmod (wrap64 ((Int.tmod x7 x1) + x1)) x1))) else (spec_l01InvMod.l0 k x1 x6 (wrap64 (x5 - (wrap64 ((wrap64 (Int.tdiv x5 x6)) * x6)))) x8 (wrap64 (x7 - (wrap64 ((wrap64 (Int.tdiv x5 x6)) * x8)))))
def spec_l01InvMod.f (k : Nat) (a0 : Int) (a1 : Int) : Option (Int) := if a1 = 0 then (none) else (spec_l01InvMod.l0 k a1 (Int.tmod (wrap64 ((Int.tmod a0 a1) + a1)) a1) a1 1 0)
set_option maxHeartbeats 8000000 in
set_option maxRecDepth 100000 in
theorem spec_l01InvMod.calls (k : Nat) (a0 : Int) (a1 : Int) (r : Int) (w : World) (h : spec_l01InvMod.f k a0 a1 = some r) :
  Calls Try.prog 90 #[.int .i64 a0, .int .i64 a1] w fun e w' => e = .returned (.int .i64 r) ∧ Drawn0 w w' := by
 have H : (if a1 = 0 then (none) else (spec_l01InvMod.l0 k a1 (Int.tmod (wrap64 ((Int.tmod a0 a1) + a1)) a1) a1 1 0)) = some r := h
 clear h
 by_cases c3 : a1 = 0
 ·rw [if_pos c3] at H
  exact absurd H (by simp)
 ·rw [if_neg c3] at H
  have c3b0 : (a1 == 0) = false := beq_eq_false_iff_ne.mpr c3
  have c3b1 : (a1 != 0) = true := bne_iff_ne.mpr c3
  have H' := Aside0.mk H
  clear H
  go_enter Try.func90, Try.ntmps90
  go_wp2
  go_loopg [5, 6, 7, 8] k (fun kq v5 v6 v7 v8 w' => ∃ (x5_1 : Int) (x6_1 : Int) (x7_1 : Int) (x8_1 : Int), v5 = .int .i64 x5_1 ∧ v6 = .int .i64 x6_1 ∧ v7 = .int .i64 x7_1 ∧ v8 = .int .i64 x8_1 ∧ Aside0 (spec_l01InvMod.l0 kq a1 x5_1 x6_1 x7_1 x8_1 = some r) ∧ Aside0 (kq ≤ k) ∧ Drawn0 w w')
  case atStart => exact ⟨(Int.tmod (wrap64 ((Int.tmod a0 a1) + a1)) a1), (a1), (1), (0), (by first | rfl | (simp; done) | (simp [*]; done) | (simp [wrap64]; done)), (by first | rfl | (simp; done) | (simp [*]; done) | (simp [wrap64]; done)), (by first | rfl | (simp; done) | (simp [*]; done) | (simp [wrap64]; done)), (by first | rfl | (simp; done) | (simp [*]; done) | (simp [wrap64]; done)), H', ⟨Nat.le_refl _⟩, by repeat (first | exact Drawn0.refl _ | apply Drawn0.step)⟩
  case round =>
   clear H'
   try clear p2
   try clear c3
   try clear c3b0
   try clear c3b1
   obtain ⟨x5_1, x6_1, x7_1, x8_1, rfl, rfl, rfl, rfl, HA, HK1, ⟨m1, rfl⟩⟩ := hrel
   cases gk with
   | zero => exact absurd HA.out (by simp [spec_l01InvMod.l0])
   | succ k1 =>
    have H := HA.out
    clear HA
    simp only [spec_l01InvMod.l0] at H
    by_cases c4 : x6_1 = 0
    ·rw [if_pos c4] at H
     have c4b0 : (x6_1 == 0) = true := beq_iff_eq.mpr c4
     have c4b1 : (x6_1 != 0) = false := bne_eq_false_iff_eq.mpr c4
     clear c4
     by_cases c5 : a1 = 0
     ·rw [if_pos c5] at H
      exact absurd H (by simp)
     ·rw [if_neg c5] at H
      have c5b0 : (a1 == 0) = false := beq_eq_false_iff_ne.mpr c5
      have c5b1 : (a1 != 0) = true := bne_iff_ne.mpr c5
      obtain rfl := Option.some.inj H
      go_wp2
      go_ret
      exact ⟨by first | rfl | (simp; done) | (simp [*]; done) | (simp [wrap64]; done), by repeat (first | exact Drawn0.refl _ | apply Drawn0.step)⟩
    ·rw [if_neg c4] at H
     have c4b0 : (x6_1 == 0) = false := beq_eq_false_iff_ne.mpr c4
     have c4b1 : (x6_1 != 0) = true := bne_iff_ne.mpr c4
     have H' := Aside0.mk H
     clear H
     go_wp2
     go_roundg k1
     case measure => have := HK1.out; omega
     case rel => exact ⟨(x6_1), (wrap64 (x5_1 - (wrap64 ((wrap64 (Int.tdiv x5_1 x6_1)) * x6_1)))), (x8_1), (wrap64 (x7_1 - (wrap64 ((wrap64 (Int.tdiv x5_1 x6_1)) * x8_1)))), (by first | rfl | (simp; done) | (simp [*]; done) | (simp [wrap64]; done)), (by first | rfl | (simp; done) | (simp [*]; done) | (simp [wrap64]; done)), (by first | rfl | (simp; done) | (simp [*]; done) | (simp [wrap64]; done)), (by first | rfl | (simp; done) | (simp [*]; done) | (simp [wrap64]; done)), H', ⟨by have := HK1.out; omega⟩, by repeat (first | exact Drawn0.refl _ | apply Drawn0.step)⟩
/-! ### spec_l01Of: function 70 -/
def spec_l01Of.f (k : Nat) (a0 : Int) (a1 : Int) (a2 : Int) (a3 : Int) : Option (Int × Int × Int × Bool) := (spec_l01In.f a3 (-6) 6).bind fun t111 => (if t111 = true then (if a1 = 0 then (some (a3, 0, 0, true)) else ((spec_l01Val.f k a0 a1).bind fun t113 => ((spec_l01Val.f k a0 a2).bind fun t114 => (if a3 ≤ (wrap64 (t113 - t114)) then (some (a3, 0, 0, true)) else (if (mx (wrap64 (t114 - t113)) 0) > 6 then (some (0, 0, 0, false)) else ((spec_l01Power.f k a0 (wrap64 (a3 + (mx (wrap64 (t114 - t113)) 0)))).bind fun t115 => ((spec_l01Power.f k a0 t113).bind fun t116 => (if t116 = 0 then (none) else ((spec_l01Power.f k a0 t114).bind fun t117 => (if t117 = 0 then (none) else ((spec_l01InvMod.f k (wrap64 (Int.tdiv a2 t117)) t115).bind fun t118 => ((spec_l01MulMod.f (wrap64 (Int.tdiv a1 t116)) t118 t115).bind fun t119 => ((spec_l01Power.f k a0 (mx (wrap64 (t113 - t114)) 0)).bind fun t120 => ((spec_l01MulMod.f t119 t120 t115).bind fun t121 => (some (a3, t121, mx (wrap64 (t114 - t113)) 0, true)))))))))))))))) else (some (0, 0, 0, false)))
set_option maxHeartbeats 8000000 in
set_option maxRecDepth 100000 in
theorem spec_l01Of.calls (k : Nat) (a0 : Int) (a1 : Int) (a2 : Int) (a3 : Int) (r1 : Int) (r2 : Int) (r3 : Int) (r4 : Bool) (w : World) (h : spec_l01Of.f k a0 a1 a2 a3 = some (r1, r2, r3, r4)) :
  Calls Try.prog 70 #[.int .i64 a0, .int .i64 a1, .int .i64 a2, .int .i64 a3] w fun e w' => e = .returned (.tuple #[.agg #[.int .i64 r1, .int .i64 r2, .int .i64 r3], .bool r4]) ∧ Below w.heap.size w w' := by
 have hu25 := Try.underlying25
 have HB := Aside0.mk (Below.refl w.heap.size w)
 have H : ((spec_l01In.f a3 (-6) 6).bind fun t111 => (if t111 = true then (if a1 = 0 then (some (a3, 0, 0, true)) else ((spec_l01Val.f k a0 a1).bind fun t113 => ((spec_l01Val.f k a0 a2).bind fun t114 => (if a3 ≤ (wrap64 (t113 - t114)) then (some (a3, 0, 0, true)) else (if (mx (wrap64 (t114 - t113)) 0) > 6 then (some (0, 0, 0, false)) else ((spec_l01Power.f k a0 (wrap64 (a3 + (mx (wrap64 (t114 - t113)) 0)))).bind fun t115 => ((spec_l01Power.f k a0 t113).bind fun t116 => (if t116 = 0 then (none) else ((spec_l01Power.f k a0 t114).bind fun t117 => (if t117 = 0 then (none) else ((spec_l01InvMod.f k (wrap64 (Int.tdiv a2 t117)) t115).bind fun t118 => ((spec_l01MulMod.f (wrap64 (Int.tdiv a1 t116)) t118 t115).bind fun t119 => ((spec_l01Power.f k a0 (mx (wrap64 (t113 - t114)) 0)).bind fun t120 => ((spec_l01MulMod.f t119 t120 t115).bind fun t121 => (some (a3, t121, mx (wrap64 (t114 - t113)) 0, true)))))))))))))))) else (some (0, 0, 0, false)))) = some (r1, r2, r3, r4) := h
 clear h
 replace H := Option.bind_eq_some_iff.mp H
 obtain ⟨t111, A50, H⟩ := H
 have A5 := Aside0.mk A50
 clear A50
 by_cases c6 : t111 = true
 ·subst c6
  have H1 : (if a1 = 0 then (some (a3, 0, 0, true)) else ((spec_l01Val.f k a0 a1).bind fun t113 => ((spec_l01Val.f k a0 a2).bind fun t114 => (if a3 ≤ (wrap64 (t113 - t114)) then (some (a3, 0, 0, true)) else (if (mx (wrap64 (t114 - t113)) 0) > 6 then (some (0, 0, 0, false)) else ((spec_l01Power.f k a0 (wrap64 (a3 + (mx (wrap64 (t114 - t113)) 0)))).bind fun t115 => ((spec_l01Power.f k a0 t113).bind fun t116 => (if t116 = 0 then (none) else ((spec_l01Power.f k a0 t114).bind fun t117 => (if t117 = 0 then (none) else ((spec_l01InvMod.f k (wrap64 (Int.tdiv a2 t117)) t115).bind fun t118 => ((spec_l01MulMod.f (wrap64 (Int.tdiv a1 t116)) t118 t115).bind fun t119 => ((spec_l01Power.f k a0 (mx (wrap64 (t113 - t114)) 0)).bind fun t120 => ((spec_l01MulMod.f t119 t120 t115).bind fun t121 => (some (a3, t121, mx (wrap64 (t114 - t113)) 0, true)))))))))))))))) = some (r1, r2, r3, r4) := by rw [if_pos rfl] at H; exact H
  clear H
  have H := H1
  clear H1
  by_cases c7 : a1 = 0
  ·rw [if_pos c7] at H
   have c7b0 : (a1 == 0) = true := beq_iff_eq.mpr c7
   have c7b1 : (a1 != 0) = false := bne_eq_false_iff_eq.mpr c7
   clear c7
   simp only [Option.some.injEq, Prod.mk.injEq] at H
   obtain ⟨rfl, rfl, rfl, rfl⟩ := H
   go_enter Try.func70, Try.ntmps70
   go_wp2_with (first | ((with_reducible refine gate_dst (N := 8) rfl ?_); refine bx_ 8 #[.int .i64 0, .int .i64 0, .int .i64 0] 25 ?_; intro gb110 hg w8 hbox hb; have BK110 := Aside0.mk (hbox); have GW110 := bs_ HB hg; have GE110 := bs_ HB hg; replace HB := bt_ HB hb; clear hb hbox hg) | ((with_reducible refine gate_callee (f := 25) rfl ?_); refine ge_ 15 Try.func25 #[.int .i64 a3, .int .i64 (-6), .int .i64 6] ?_; (with_reducible refine (spec_l01In.calls a3 (-6) 6 true _ A5.out).mono ?_); rintro e w' ⟨rfl, ⟨nd, rfl⟩⟩; refine ⟨_, rfl, ?_⟩; (try (rw [drewN_self w8]; generalize hq_ : World.drewN w8 _ = w8; have n0_ : Aside0 (w8.heap[gb110]? = some (.cells #[.int .i64 0, .int .i64 0, .int .i64 0] 25 (0, 0))) := ⟨by rw [← hq_]; exact (bl_ BK110).out⟩; have n1_ : Aside0 (Below w.heap.size w w8) := ⟨by rw [← hq_]; exact (bw_ HB).out⟩; clear BK110 HB hq_; have BK110 := n0_; have HB := n1_; clear n0_ n1_))) | ((with_reducible refine gate_dst (N := 10) rfl ?_); refine bx_ 10 #[.int .i64 0, .int .i64 0, .int .i64 0] 25 ?_; intro gb112 hg w9 hbox hb; have BK112 := Aside0.mk (hbox); have GW112 := bs_ HB hg; have GE112 := bs_ HB hg; have NB110_112 := bm_ BK110 hg; have NB112_110 := bn_ BK110 hg; replace BK110 := bb_ BK110 hb; replace HB := bt_ HB hb; clear hb hbox hg; have hnb10 := NB112_110.out; have hnc10 := NB110_112.out; have hcz11_0 : w9.cell? ⟨gb112, 0, none⟩ = some (.int .i64 0) := cz_ BK112 0; have hcz11_1 : w9.cell? ⟨gb112, 1, none⟩ = some (.int .i64 0) := cz_ BK112 1; have hcz11_2 : w9.cell? ⟨gb112, 2, none⟩ = some (.int .i64 0) := cz_ BK112 2; have hfz11_0 := fz_ BK112 0; have hfz11_1 := fz_ BK112 1; have hfz11_2 := fz_ BK112 2; have hcz12_0 : w9.cell? ⟨gb110, 0, none⟩ = some (.int .i64 0) := cz_ BK110 0; have hcz12_1 : w9.cell? ⟨gb110, 1, none⟩ = some (.int .i64 0) := cz_ BK110 1; have hcz12_2 : w9.cell? ⟨gb110, 2, none⟩ = some (.int .i64 0) := cz_ BK110 2; have hfz12_0 := fz_ BK110 0; have hfz12_1 := fz_ BK110 1; have hfz12_2 := fz_ BK110 2))
   refine bodyPost_ret (results_ct rfl _ _ gb110 25 #[.int .i64 a3, .int .i64 0, .int .i64 0] (0, 0) _ rfl (by (with_reducible repeat first | apply blk_drewN | apply blk_drew | apply blk_alloc); refine blk_put (cs := #[.int .i64 a3, .int .i64 0, .int .i64 0]) ?_ 2 _ rfl; (with_reducible repeat first | apply blk_drewN | apply blk_drew | apply blk_alloc); refine blk_put (cs := #[.int .i64 a3, .int .i64 0, .int .i64 0]) ?_ 1 _ rfl; (with_reducible repeat first | apply blk_drewN | apply blk_drew | apply blk_alloc); refine blk_put (cs := #[.int .i64 0, .int .i64 0, .int .i64 0]) ?_ 0 _ rfl; (with_reducible repeat first | apply blk_drewN | apply blk_drew | apply blk_alloc); refine blk_far ?_ NB110_112.out _; (with_reducible repeat first | apply blk_drewN | apply blk_drew | apply blk_alloc); refine blk_far ?_ NB110_112.out _; (with_reducible repeat first | apply blk_drewN | apply blk_drew | apply blk_alloc); refine blk_far ?_ NB110_112.out _; (with_reducible repeat first | apply blk_drewN | apply blk_drew | apply blk_alloc); exact BK110.out) Try.underlying25 rfl (by kernel_rfl)) rfl ?_
   exact ⟨by first | rfl | (simp [errW_none, errW_some] <;> rfl) | (simp [*, errW_none, errW_some] <;> rfl), by repeat (first | (with_reducible first | exact HB.out | apply below_alloc | apply pw_below_drewN | apply below_drew1 | refine below_set ?_ GE110.out | refine below_set ?_ GE112.out) | exact HB.out)⟩
  ·rw [if_neg c7] at H
   have c7b0 : (a1 == 0) = false := beq_eq_false_iff_ne.mpr c7
   have c7b1 : (a1 != 0) = true := bne_iff_ne.mpr c7
   replace H := Option.bind_eq_some_iff.mp H
   obtain ⟨t113, A130, H⟩ := H
   have A13 := Aside0.mk A130
   clear A130
   replace H := Option.bind_eq_some_iff.mp H
   obtain ⟨t114, A140, H⟩ := H
   have A14 := Aside0.mk A140
   clear A140
   by_cases c15 : a3 ≤ (wrap64 (t113 - t114))
   ·rw [if_pos c15] at H
    have c15b0 : decide (a3 ≤ (wrap64 (t113 - t114))) = true := decide_eq_true c15
    clear c15
    simp only [Option.some.injEq, Prod.mk.injEq] at H
    obtain ⟨rfl, rfl, rfl, rfl⟩ := H
    go_enter Try.func70, Try.ntmps70
    go_wp2_with (first | ((with_reducible refine gate_dst (N := 8) rfl ?_); refine bx_ 8 #[.int .i64 0, .int .i64 0, .int .i64 0] 25 ?_; intro gb110 hg w16 hbox hb; have BK110 := Aside0.mk (hbox); have GW110 := bs_ HB hg; have GE110 := bs_ HB hg; replace HB := bt_ HB hb; clear hb hbox hg) | ((with_reducible refine gate_callee (f := 25) rfl ?_); refine ge_ 15 Try.func25 #[.int .i64 a3, .int .i64 (-6), .int .i64 6] ?_; (with_reducible refine (spec_l01In.calls a3 (-6) 6 true _ A5.out).mono ?_); rintro e w' ⟨rfl, ⟨nd, rfl⟩⟩; refine ⟨_, rfl, ?_⟩; (try (rw [drewN_self w16]; generalize hq_ : World.drewN w16 _ = w16; have n0_ : Aside0 (w16.heap[gb110]? = some (.cells #[.int .i64 0, .int .i64 0, .int .i64 0] 25 (0, 0))) := ⟨by rw [← hq_]; exact (bl_ BK110).out⟩; have n1_ : Aside0 (Below w.heap.size w w16) := ⟨by rw [← hq_]; exact (bw_ HB).out⟩; clear BK110 HB hq_; have BK110 := n0_; have HB := n1_; clear n0_ n1_))) | ((with_reducible refine gate_dst (N := 10) rfl ?_); refine bx_ 10 #[.int .i64 0, .int .i64 0, .int .i64 0] 25 ?_; intro gb112 hg w17 hbox hb; have BK112 := Aside0.mk (hbox); have GW112 := bs_ HB hg; have GE112 := bs_ HB hg; have NB110_112 := bm_ BK110 hg; have NB112_110 := bn_ BK110 hg; replace BK110 := bb_ BK110 hb; replace HB := bt_ HB hb; clear hb hbox hg; have hnb18 := NB112_110.out; have hnc18 := NB110_112.out; have hcz19_0 : w17.cell? ⟨gb112, 0, none⟩ = some (.int .i64 0) := cz_ BK112 0; have hcz19_1 : w17.cell? ⟨gb112, 1, none⟩ = some (.int .i64 0) := cz_ BK112 1; have hcz19_2 : w17.cell? ⟨gb112, 2, none⟩ = some (.int .i64 0) := cz_ BK112 2; have hfz19_0 := fz_ BK112 0; have hfz19_1 := fz_ BK112 1; have hfz19_2 := fz_ BK112 2) | ((with_reducible refine gate_callee (f := 78) rfl ?_); refine ge_ 25 Try.func78 #[.int .i64 a0, .int .i64 a1] ?_; (with_reducible refine (spec_l01Val.calls k a0 a1 t113 _ A13.out).mono ?_); rintro e w' ⟨rfl, ⟨nd, rfl⟩⟩; refine ⟨_, rfl, ?_⟩) | ((with_reducible refine gate_callee (f := 78) rfl ?_); refine ge_ 28 Try.func78 #[.int .i64 a0, .int .i64 a2] ?_; (with_reducible refine (spec_l01Val.calls k a0 a2 t114 _ A14.out).mono ?_); rintro e w' ⟨rfl, ⟨nd, rfl⟩⟩; refine ⟨_, rfl, ?_⟩; have hcz20_0 : w17.cell? ⟨gb110, 0, none⟩ = some (.int .i64 0) := cz_ BK110 0; have hcz20_1 : w17.cell? ⟨gb110, 1, none⟩ = some (.int .i64 0) := cz_ BK110 1; have hcz20_2 : w17.cell? ⟨gb110, 2, none⟩ = some (.int .i64 0) := cz_ BK110 2; have hfz20_0 := fz_ BK110 0; have hfz20_1 := fz_ BK110 1; have hfz20_2 := fz_ BK110 2))
    refine bodyPost_ret (results_ct rfl _ _ gb110 25 #[.int .i64 a3, .int .i64 0, .int .i64 0] (0, 0) _ rfl (by (with_reducible repeat first | apply blk_drewN | apply blk_drew | apply blk_alloc); refine blk_put (cs := #[.int .i64 a3, .int .i64 0, .int .i64 0]) ?_ 2 _ rfl; (with_reducible repeat first | apply blk_drewN | apply blk_drew | apply blk_alloc); refine blk_put (cs := #[.int .i64 a3, .int .i64 0, .int .i64 0]) ?_ 1 _ rfl; (with_reducible repeat first | apply blk_drewN | apply blk_drew | apply blk_alloc); refine blk_put (cs := #[.int .i64 0, .int .i64 0, .int .i64 0]) ?_ 0 _ rfl; (with_reducible repeat first | apply blk_drewN | apply blk_drew | apply blk_alloc); refine blk_far ?_ NB110_112.out _; (with_reducible repeat first | apply blk_drewN | apply blk_drew | apply blk_alloc); refine blk_far ?_ NB110_112.out _; (with_reducible repeat first | apply blk_drewN | apply blk_drew | apply blk_alloc); refine blk_far ?_ NB110_112.out _; (with_reducible repeat first | apply blk_drewN | apply blk_drew | apply blk_alloc); exact BK110.out) Try.underlying25 rfl (by kernel_rfl)) rfl ?_
    exact ⟨by first | rfl | (simp [errW_none, errW_some] <;> rfl) | (simp [*, errW_none, errW_some] <;> rfl), by repeat (first | (with_reducible first | exact HB.out | apply below_alloc | apply pw_below_drewN | apply below_drew1 | refine below_set ?_ GE110.out | refine below_set ?_ GE112.out) | exact HB.out)⟩
   ·rw [if_neg c15] at H
    have c15b0 : decide (a3 ≤ (wrap64 (t113 - t114))) = false := decide_eq_false c15
    clear c15
    obtain ⟨ji21, hji21⟩ : ∃ j_ : Int, (mx (wrap64 (t114 - t113)) 0) = j_ := ⟨_, rfl⟩
    replace H : (if (ji21) > 6 then (some (0, 0, 0, false)) else ((spec_l01Power.f k a0 (wrap64 (a3 + (ji21)))).bind fun t115 => ((spec_l01Power.f k a0 t113).bind fun t116 => (if t116 = 0 then (none) else ((spec_l01Power.f k a0 t114).bind fun t117 => (if t117 = 0 then (none) else ((spec_l01InvMod.f k (wrap64 (Int.tdiv a2 t117)) t115).bind fun t118 => ((spec_l01MulMod.f (wrap64 (Int.tdiv a1 t116)) t118 t115).bind fun t119 => ((spec_l01Power.f k a0 (mx (wrap64 (t113 - t114)) 0)).bind fun t120 => ((spec_l01MulMod.f t119 t120 t115).bind fun t121 => (some (a3, t121, ji21, true)))))))))))) = some (r1, r2, r3, r4) := by first | (rw [hji21] at H; exact H) | (simp only [hji21] at H ⊢; exact H)
    (try rw [hji21] at A5)
    (try rw [hji21] at A13)
    (try rw [hji21] at A14)
    (try (have hji21l : 0 ≤ ji21 := by (rw [← hji21]; unfold mx; (repeat' split) <;> omega)))
    (try (have hji21m : 0 ≤ ji21 := by omega))
    have hji21_ : (if (wrap64 (t114 - t113)) < 0 then 0 else (wrap64 (t114 - t113))) = ji21 := hji21
    by_cases c22 : (ji21) > 6
    ·rw [if_pos c22] at H
     have c22b0 : decide (6 < (ji21)) = true := decide_eq_true c22
     clear c22
     simp only [Option.some.injEq, Prod.mk.injEq] at H
     obtain ⟨rfl, rfl, rfl, rfl⟩ := H
     go_enter Try.func70, Try.ntmps70
     go_wp2_with (first | ((with_reducible refine gate_dst (N := 8) rfl ?_); refine bx_ 8 #[.int .i64 0, .int .i64 0, .int .i64 0] 25 ?_; intro gb110 hg w23 hbox hb; have BK110 := Aside0.mk (hbox); have GW110 := bs_ HB hg; have GE110 := bs_ HB hg; replace HB := bt_ HB hb; clear hb hbox hg) | ((with_reducible refine gate_callee (f := 25) rfl ?_); refine ge_ 15 Try.func25 #[.int .i64 a3, .int .i64 (-6), .int .i64 6] ?_; (with_reducible refine (spec_l01In.calls a3 (-6) 6 true _ A5.out).mono ?_); rintro e w' ⟨rfl, ⟨nd, rfl⟩⟩; refine ⟨_, rfl, ?_⟩; (try (rw [drewN_self w23]; generalize hq_ : World.drewN w23 _ = w23; have n0_ : Aside0 (w23.heap[gb110]? = some (.cells #[.int .i64 0, .int .i64 0, .int .i64 0] 25 (0, 0))) := ⟨by rw [← hq_]; exact (bl_ BK110).out⟩; have n1_ : Aside0 (Below w.heap.size w w23) := ⟨by rw [← hq_]; exact (bw_ HB).out⟩; clear BK110 HB hq_; have BK110 := n0_; have HB := n1_; clear n0_ n1_))) | ((with_reducible refine gate_dst (N := 10) rfl ?_); refine bx_ 10 #[.int .i64 0, .int .i64 0, .int .i64 0] 25 ?_; intro gb112 hg w24 hbox hb; have BK112 := Aside0.mk (hbox); have GW112 := bs_ HB hg; have GE112 := bs_ HB hg; have NB110_112 := bm_ BK110 hg; have NB112_110 := bn_ BK110 hg; replace BK110 := bb_ BK110 hb; replace HB := bt_ HB hb; clear hb hbox hg; have hnb25 := NB112_110.out; have hnc25 := NB110_112.out; have hcz26_0 : w24.cell? ⟨gb112, 0, none⟩ = some (.int .i64 0) := cz_ BK112 0; have hcz26_1 : w24.cell? ⟨gb112, 1, none⟩ = some (.int .i64 0) := cz_ BK112 1; have hcz26_2 : w24.cell? ⟨gb112, 2, none⟩ = some (.int .i64 0) := cz_ BK112 2; have hfz26_0 := fz_ BK112 0; have hfz26_1 := fz_ BK112 1; have hfz26_2 := fz_ BK112 2) | ((with_reducible refine gate_callee (f := 78) rfl ?_); refine ge_ 25 Try.func78 #[.int .i64 a0, .int .i64 a1] ?_; (with_reducible refine (spec_l01Val.calls k a0 a1 t113 _ A13.out).mono ?_); rintro e w' ⟨rfl, ⟨nd, rfl⟩⟩; refine ⟨_, rfl, ?_⟩) | ((with_reducible refine gate_callee (f := 78) rfl ?_); refine ge_ 28 Try.func78 #[.int .i64 a0, .int .i64 a2] ?_; (with_reducible refine (spec_l01Val.calls k a0 a2 t114 _ A14.out).mono ?_); rintro e w' ⟨rfl, ⟨nd, rfl⟩⟩; refine ⟨_, rfl, ?_⟩; have hcz27_0 : w24.cell? ⟨gb110, 0, none⟩ = some (.int .i64 0) := cz_ BK110 0; have hcz27_1 : w24.cell? ⟨gb110, 1, none⟩ = some (.int .i64 0) := cz_ BK110 1; have hcz27_2 : w24.cell? ⟨gb110, 2, none⟩ = some (.int .i64 0) := cz_ BK110 2; have hfz27_0 := fz_ BK110 0; have hfz27_1 := fz_ BK110 1; have hfz27_2 := fz_ BK110 2))
     refine bodyPost_ret (results_ct rfl _ _ gb110 25 #[.int .i64 0, .int .i64 0, .int .i64 0] (0, 0) _ rfl (by (with_reducible repeat first | apply blk_drewN | apply blk_drew | apply blk_alloc); refine blk_put (cs := #[.int .i64 0, .int .i64 0, .int .i64 0]) ?_ 2 _ rfl; (with_reducible repeat first | apply blk_drewN | apply blk_drew | apply blk_alloc); refine blk_put (cs := #[.int .i64 0, .int .i64 0, .int .i64 0]) ?_ 1 _ rfl; (with_reducible repeat first | apply blk_drewN | apply blk_drew | apply blk_alloc); refine blk_put (cs := #[.int .i64 0, .int .i64 0, .int .i64 0]) ?_ 0 _ rfl; (with_reducible repeat first | apply blk_drewN | apply blk_drew | apply blk_alloc); refine blk_far ?_ NB110_112.out _; (with_reducible repeat first | apply blk_drewN | apply blk_drew | apply blk_alloc); refine blk_far ?_ NB110_112.out _; (with_reducible repeat first | apply blk_drewN | apply blk_drew | apply blk_alloc); refine blk_far ?_ NB110_112.out _; (with_reducible repeat first | apply blk_drewN | apply blk_drew | apply blk_alloc); refine blk_far ?_ NB110_112.out _; (with_reducible repeat first | apply blk_drewN | apply blk_drew | apply blk_alloc); exact BK110.out) Try.underlying25 rfl (by kernel_rfl)) rfl ?_
     exact ⟨by first | rfl | (simp [errW_none, errW_some] <;> rfl) | (simp only [← hji21]; first | rfl | (simp [errW_none, errW_some] <;> rfl)) | (simp [*, errW_none, errW_some] <;> rfl), by repeat (first | (with_reducible first | exact HB.out | apply below_alloc | apply pw_below_drewN | apply below_drew1 | refine below_set ?_ GE110.out | refine below_set ?_ GE112.out) | exact HB.out)⟩
    ·rw [if_neg c22] at H
     have c22b0 : decide (6 < (ji21)) = false := decide_eq_false c22
     clear c22
     replace H := Option.bind_eq_some_iff.mp H
     obtain ⟨t115, A280, H⟩ := H
     have A28 := Aside0.mk A280
     clear A280
     replace H := Option.bind_eq_some_iff.mp H
     obtain ⟨t116, A290, H⟩ := H
     have A29 := Aside0.mk A290
     clear A290
     by_cases c30 : t116 = 0
     ·rw [if_pos c30] at H
      exact absurd H (by simp)
     ·rw [if_neg c30] at H
      have c30b0 : (t116 == 0) = false := beq_eq_false_iff_ne.mpr c30
      have c30b1 : (t116 != 0) = true := bne_iff_ne.mpr c30
      replace H := Option.bind_eq_some_iff.mp H
      obtain ⟨t117, A310, H⟩ := H
      have A31 := Aside0.mk A310
      clear A310
      by_cases c32 : t117 = 0
      ·rw [if_pos c32] at H
       exact absurd H (by simp)
      ·rw [if_neg c32] at H
       have c32b0 : (t117 == 0) = false := beq_eq_false_iff_ne.mpr c32
       have c32b1 : (t117 != 0) = true := bne_iff_ne.mpr c32
       replace H := Option.bind_eq_some_iff.mp H
       obtain ⟨t118, A330, H⟩ := H
       have A33 := Aside0.mk A330
       clear A330
       replace H := Option.bind_eq_some_iff.mp H
       obtain ⟨t119, A340, H⟩ := H
       have A34 := Aside0.mk A340
       clear A340
       obtain ⟨ji35, hji35⟩ : ∃ j_ : Int, (mx (wrap64 (t113 - t114)) 0) = j_ := ⟨_, rfl⟩
       replace H : ((spec_l01Power.f k a0 (ji35)).bind fun t120 => ((spec_l01MulMod.f t119 t120 t115).bind fun t121 => (some (a3, t121, ji21, true)))) = some (r1, r2, r3, r4) := by first | (rw [hji35] at H; exact H) | (simp only [hji35] at H ⊢; exact H)
       (try rw [hji35] at A5)
       (try rw [hji35] at A13)
       (try rw [hji35] at A14)
       (try rw [hji35] at A28)
       (try rw [hji35] at A29)
       (try rw [hji35] at A31)
       (try rw [hji35] at A33)
       (try rw [hji35] at A34)
       (try (have hji35l : 0 ≤ ji35 := by (rw [← hji35]; unfold mx; (repeat' split) <;> omega)))
       (try (have hji35m : 0 ≤ ji35 := by omega))
       have hji35_ : (if (wrap64 (t113 - t114)) < 0 then 0 else (wrap64 (t113 - t114))) = ji35 := hji35
       replace H := Option.bind_eq_some_iff.mp H
       obtain ⟨t120, A360, H⟩ := H
       have A36 := Aside0.mk A360
       clear A360
       replace H := Option.bind_eq_some_iff.mp H
       obtain ⟨t121, A370, H⟩ := H
       have A37 := Aside0.mk A370
       clear A370
       simp only [Option.some.injEq, Prod.mk.injEq] at H
       obtain ⟨rfl, rfl, rfl, rfl⟩ := H
       go_enter Try.func70, Try.ntmps70
       go_wp2_with (first | ((with_reducible refine gate_dst (N := 8) rfl ?_); refine bx_ 8 #[.int .i64 0, .int .i64 0, .int .i64 0] 25 ?_; intro gb110 hg w38 hbox hb; have BK110 := Aside0.mk (hbox); have GW110 := bs_ HB hg; have GE110 := bs_ HB hg; replace HB := bt_ HB hb; clear hb hbox hg) | ((with_reducible refine gate_callee (f := 25) rfl ?_); refine ge_ 15 Try.func25 #[.int .i64 a3, .int .i64 (-6), .int .i64 6] ?_; (with_reducible refine (spec_l01In.calls a3 (-6) 6 true _ A5.out).mono ?_); rintro e w' ⟨rfl, ⟨nd, rfl⟩⟩; refine ⟨_, rfl, ?_⟩; (try (rw [drewN_self w38]; generalize hq_ : World.drewN w38 _ = w38; have n0_ : Aside0 (w38.heap[gb110]? = some (.cells #[.int .i64 0, .int .i64 0, .int .i64 0] 25 (0, 0))) := ⟨by rw [← hq_]; exact (bl_ BK110).out⟩; have n1_ : Aside0 (Below w.heap.size w w38) := ⟨by rw [← hq_]; exact (bw_ HB).out⟩; clear BK110 HB hq_; have BK110 := n0_; have HB := n1_; clear n0_ n1_))) | ((with_reducible refine gate_dst (N := 10) rfl ?_); refine bx_ 10 #[.int .i64 0, .int .i64 0, .int .i64 0] 25 ?_; intro gb112 hg w39 hbox hb; have BK112 := Aside0.mk (hbox); have GW112 := bs_ HB hg; have GE112 := bs_ HB hg; have NB110_112 := bm_ BK110 hg; have NB112_110 := bn_ BK110 hg; replace BK110 := bb_ BK110 hb; replace HB := bt_ HB hb; clear hb hbox hg; have hnb40 := NB112_110.out; have hnc40 := NB110_112.out; have hcz41_0 : w39.cell? ⟨gb112, 0, none⟩ = some (.int .i64 0) := cz_ BK112 0; have hcz41_1 : w39.cell? ⟨gb112, 1, none⟩ = some (.int .i64 0) := cz_ BK112 1; have hcz41_2 : w39.cell? ⟨gb112, 2, none⟩ = some (.int .i64 0) := cz_ BK112 2; have hfz41_0 := fz_ BK112 0; have hfz41_1 := fz_ BK112 1; have hfz41_2 := fz_ BK112 2) | ((with_reducible refine gate_callee (f := 78) rfl ?_); refine ge_ 25 Try.func78 #[.int .i64 a0, .int .i64 a1] ?_; (with_reducible refine (spec_l01Val.calls k a0 a1 t113 _ A13.out).mono ?_); rintro e w' ⟨rfl, ⟨nd, rfl⟩⟩; refine ⟨_, rfl, ?_⟩) | ((with_reducible refine gate_callee (f := 78) rfl ?_); refine ge_ 28 Try.func78 #[.int .i64 a0, .int .i64 a2] ?_; (with_reducible refine (spec_l01Val.calls k a0 a2 t114 _ A14.out).mono ?_); rintro e w' ⟨rfl, ⟨nd, rfl⟩⟩; refine ⟨_, rfl, ?_⟩) | ((with_reducible refine gate_callee (f := 71) rfl ?_); refine ge_ 49 Try.func71 #[.int .i64 a0, .int .i64 (wrap64 (a3 + (ji21)))] ?_ (hargs := by (try simp only [List.map_toArray, List.map_cons, List.map_nil]); first | done | (simp only [hji21]; rfl) | rfl | (simp only [List.length_drop, List.length_take]; rfl)); (with_reducible refine (spec_l01Power.calls k a0 (wrap64 (a3 + (ji21))) t115 _ A28.out).mono ?_); rintro e w' ⟨rfl, ⟨nd, rfl⟩⟩; refine ⟨_, rfl, ?_⟩) | ((with_reducible refine gate_callee (f := 71) rfl ?_); refine ge_ 53 Try.func71 #[.int .i64 a0, .int .i64 t113] ?_; (with_reducible refine (spec_l01Power.calls k a0 t113 t116 _ A29.out).mono ?_); rintro e w' ⟨rfl, ⟨nd, rfl⟩⟩; refine ⟨_, rfl, ?_⟩) | ((with_reducible refine gate_callee (f := 71) rfl ?_); refine ge_ 58 Try.func71 #[.int .i64 a0, .int .i64 t114] ?_; (with_reducible refine (spec_l01Power.calls k a0 t114 t117 _ A31.out).mono ?_); rintro e w' ⟨rfl, ⟨nd, rfl⟩⟩; refine ⟨_, rfl, ?_⟩) | ((with_reducible refine gate_callee (f := 90) rfl ?_); refine ge_ 63 Try.func90 #[.int .i64 (wrap64 (Int.tdiv a2 t117)), .int .i64 t115] ?_; (with_reducible refine (spec_l01InvMod.calls k (wrap64 (Int.tdiv a2 t117)) t115 t118 _ A33.out).mono ?_); rintro e w' ⟨rfl, ⟨nd, rfl⟩⟩; refine ⟨_, rfl, ?_⟩) | ((with_reducible refine gate_callee (f := 89) rfl ?_); refine ge_ 65 Try.func89 #[.int .i64 (wrap64 (Int.tdiv a1 t116)), .int .i64 t118, .int .i64 t115] ?_; (with_reducible refine (spec_l01MulMod.calls (wrap64 (Int.tdiv a1 t116)) t118 t115 t119 _ A34.out).mono ?_); rintro e w' ⟨rfl, ⟨nd, rfl⟩⟩; refine ⟨_, rfl, ?_⟩) | ((with_reducible refine gate_callee (f := 71) rfl ?_); refine ge_ 71 Try.func71 #[.int .i64 a0, .int .i64 ji35] ?_ (hargs := by (try simp only [List.map_toArray, List.map_cons, List.map_nil]); first | done | (simp only [hji35]; rfl) | rfl | (simp only [List.length_drop, List.length_take]; rfl)); (with_reducible refine (spec_l01Power.calls k a0 ji35 t120 _ A36.out).mono ?_); rintro e w' ⟨rfl, ⟨nd, rfl⟩⟩; refine ⟨_, rfl, ?_⟩) | ((with_reducible refine gate_callee (f := 89) rfl ?_); refine ge_ 73 Try.func89 #[.int .i64 t119, .int .i64 t120, .int .i64 t115] ?_; (with_reducible refine (spec_l01MulMod.calls t119 t120 t115 t121 _ A37.out).mono ?_); rintro e w' ⟨rfl, ⟨nd, rfl⟩⟩; refine ⟨_, rfl, ?_⟩; have hcz42_0 : w39.cell? ⟨gb110, 0, none⟩ = some (.int .i64 0) := cz_ BK110 0; have hcz42_1 : w39.cell? ⟨gb110, 1, none⟩ = some (.int .i64 0) := cz_ BK110 1; have hcz42_2 : w39.cell? ⟨gb110, 2, none⟩ = some (.int .i64 0) := cz_ BK110 2; have hfz42_0 := fz_ BK110 0; have hfz42_1 := fz_ BK110 1; have hfz42_2 := fz_ BK110 2))
       refine bodyPost_ret (results_ct rfl _ _ gb110 25 #[.int .i64 a3, .int .i64 t121, .int .i64 ji21] (0, 0) _ rfl (by (with_reducible repeat first | apply blk_drewN | apply blk_drew | apply blk_alloc); refine blk_put (cs := #[.int .i64 a3, .int .i64 t121, .int .i64 0]) ?_ 2 _ rfl; (with_reducible repeat first | apply blk_drewN | apply blk_drew | apply blk_alloc); refine blk_put (cs := #[.int .i64 a3, .int .i64 0, .int .i64 0]) ?_ 1 _ rfl; (with_reducible repeat first | apply blk_drewN | apply blk_drew | apply blk_alloc); refine blk_put (cs := #[.int .i64 0, .int .i64 0, .int .i64 0]) ?_ 0 _ rfl; (with_reducible repeat first | apply blk_drewN | apply blk_drew | apply blk_alloc); refine blk_far ?_ NB110_112.out _; (with_reducible repeat first | apply blk_drewN | apply blk_drew | apply blk_alloc); refine blk_far ?_ NB110_112.out _; (with_reducible repeat first | apply blk_drewN | apply blk_drew | apply blk_alloc); refine blk_far ?_ NB110_112.out _; (with_reducible repeat first | apply blk_drewN | apply blk_drew | apply blk_alloc); refine blk_far ?_ NB110_112.out _; (with_reducible repeat first | apply blk_drewN | apply blk_drew | apply blk_alloc); refine blk_far ?_ NB110_112.out _; (with_reducible repeat first | apply blk_drewN | apply blk_drew | apply blk_alloc); exact BK110.out) Try.underlying25 rfl (by kernel_rfl)) rfl ?_
       exact ⟨by first | rfl | (simp [errW_none, errW_some] <;> rfl) | (simp only [← hji21, ← hji35]; first | rfl | (simp [errW_none, errW_some] <;> rfl)) | (simp [*, errW_none, errW_some] <;> rfl), by repeat (first | (with_reducible first | exact HB.out | apply below_alloc | apply pw_below_drewN | apply below_drew1 | refine below_set ?_ GE110.out | refine below_set ?_ GE112.out) | exact HB.out)⟩
 ·replace c6 := Bool.eq_false_iff.mpr c6
  subst c6
  have H1 : (some (0, 0, 0, false)) = some (r1, r2, r3, r4) := by rw [if_neg (show ¬ (false = true) by decide)] at H; exact H
  clear H
  have H := H1
  clear H1
  simp only [Option.some.injEq, Prod.mk.injEq] at H
  obtain ⟨rfl, rfl, rfl, rfl⟩ := H
  go_enter Try.func70, Try.ntmps70
  go_wp2_with (first | ((with_reducible refine gate_dst (N := 8) rfl ?_); refine bx_ 8 #[.int .i64 0, .int .i64 0, .int .i64 0] 25 ?_; intro gb110 hg w43 hbox hb; have BK110 := Aside0.mk (hbox); have GW110 := bs_ HB hg; have GE110 := bs_ HB hg; replace HB := bt_ HB hb; clear hb hbox hg) | ((with_reducible refine gate_callee (f := 25) rfl ?_); refine ge_ 15 Try.func25 #[.int .i64 a3, .int .i64 (-6), .int .i64 6] ?_; (with_reducible refine (spec_l01In.calls a3 (-6) 6 false _ A5.out).mono ?_); rintro e w' ⟨rfl, ⟨nd, rfl⟩⟩; refine ⟨_, rfl, ?_⟩; (try (rw [drewN_self w43]; generalize hq_ : World.drewN w43 _ = w43; have n0_ : Aside0 (w43.heap[gb110]? = some (.cells #[.int .i64 0, .int .i64 0, .int .i64 0] 25 (0, 0))) := ⟨by rw [← hq_]; exact (bl_ BK110).out⟩; have n1_ : Aside0 (Below w.heap.size w w43) := ⟨by rw [← hq_]; exact (bw_ HB).out⟩; clear BK110 HB hq_; have BK110 := n0_; have HB := n1_; clear n0_ n1_)); have hcz44_0 : w43.cell? ⟨gb110, 0, none⟩ = some (.int .i64 0) := cz_ BK110 0; have hcz44_1 : w43.cell? ⟨gb110, 1, none⟩ = some (.int .i64 0) := cz_ BK110 1; have hcz44_2 : w43.cell? ⟨gb110, 2, none⟩ = some (.int .i64 0) := cz_ BK110 2; have hfz44_0 := fz_ BK110 0; have hfz44_1 := fz_ BK110 1; have hfz44_2 := fz_ BK110 2))
  refine bodyPost_ret (results_ct rfl _ _ gb110 25 #[.int .i64 0, .int .i64 0, .int .i64 0] (0, 0) _ rfl (by (with_reducible repeat first | apply blk_drewN | apply blk_drew | apply blk_alloc); refine blk_put (cs := #[.int .i64 0, .int .i64 0, .int .i64 0]) ?_ 2 _ rfl; (with_reducible repeat first | apply blk_drewN | apply blk_drew | apply blk_alloc); refine blk_put (cs := #[.int .i64 0, .int .i64 0, .int .i64 0]) ?_ 1 _ rfl; (with_reducible repeat first | apply blk_drewN | apply blk_drew | apply blk_alloc); refine blk_put (cs := #[.int .i64 0, .int .i64 0, .int .i64 0]) ?_ 0 _ rfl; (with_reducible repeat first | apply blk_drewN | apply blk_drew | apply blk_alloc); exact BK110.out) Try.underlying25 rfl (by kernel_rfl)) rfl ?_
  exact ⟨by first | rfl | (simp [errW_none, errW_some] <;> rfl) | (simp [*, errW_none, errW_some] <;> rfl), by repeat (first | (with_reducible first | exact HB.out | apply below_alloc | apply pw_below_drewN | apply below_drew1 | refine below_set ?_ GE110.out) | exact HB.out)⟩
/-! ### spec_l08Key: function 77 -/
def spec_l08Key.f (k : Nat) (a0 : Int) (a1_0 : Int) (a1_1 : Int) (a1_2 : Int) : Option (Int) := (spec_l01Power.f k a0 (wrap64 (6 - a1_2))).bind fun t150 => (some (wrap64 (a1_1 * t150)))
set_option maxHeartbeats 8000000 in
set_option maxRecDepth 100000 in
theorem spec_l08Key.calls (k : Nat) (a0 : Int) (a1_0 : Int) (a1_1 : Int) (a1_2 : Int) (r : Int) (w : World) (h : spec_l08Key.f k a0 a1_0 a1_1 a1_2 = some r) :
  Calls Try.prog 77 #[.int .i64 a0, .agg #[.int .i64 a1_0, .int .i64 a1_1, .int .i64 a1_2]] w fun e w' => e = .returned (.int .i64 r) ∧ Below w.heap.size w w' := by
 have hu25 := Try.underlying25
 have HB := Aside0.mk (Below.refl w.heap.size w)
 have H : ((spec_l01Power.f k a0 (wrap64 (6 - a1_2))).bind fun t150 => (some (wrap64 (a1_1 * t150)))) = some r := h
 clear h
 replace H := Option.bind_eq_some_iff.mp H
 obtain ⟨t150, A30, H⟩ := H
 have A3 := Aside0.mk A30
 clear A30
 obtain rfl := Option.some.inj H
 go_enter Try.func77, Try.ntmps77
 go_wp2_with (first | ((with_reducible refine gate_dst (N := 3) rfl ?_); refine bx_ 3 #[.int .i64 a1_0, .int .i64 a1_1, .int .i64 a1_2] 25 ?_; intro gb149 hg w4 hbox hb; have BK149 := Aside0.mk (hbox); have GW149 := bs_ HB hg; have GE149 := bs_ HB hg; replace HB := bt_ HB hb; clear hb hbox hg; have hcz5_0 : w4.cell? ⟨gb149, 0, none⟩ = some (.int .i64 a1_0) := cz_ BK149 0; have hcz5_1 : w4.cell? ⟨gb149, 1, none⟩ = some (.int .i64 a1_1) := cz_ BK149 1; have hcz5_2 : w4.cell? ⟨gb149, 2, none⟩ = some (.int .i64 a1_2) := cz_ BK149 2; have hfz5_0 := fz_ BK149 0; have hfz5_1 := fz_ BK149 1; have hfz5_2 := fz_ BK149 2) | (go_at_call 71; (with_reducible refine (spec_l01Power.calls k a0 (wrap64 (6 - a1_2)) t150 _ A3.out).mono ?_); rintro e w' ⟨rfl, ⟨nd, rfl⟩⟩; (try first | exact ⟨rfl, _, World.drewN_drewN _ _ _⟩ | exact ⟨rfl, _, Eq.trans (World.drewN_drewN _ _ _) (congrArg (World.drewN _) (Nat.add_assoc _ _ _))⟩)))
 repeat (go_quiet (first | ((with_reducible refine gate_dst (N := 3) rfl ?_); refine bx_ 3 #[.int .i64 a1_0, .int .i64 a1_1, .int .i64 a1_2] 25 ?_; intro gb149 hg w4 hbox hb; have BK149 := Aside0.mk (hbox); have GW149 := bs_ HB hg; have GE149 := bs_ HB hg; replace HB := bt_ HB hb; clear hb hbox hg; have hcz5_0 : w4.cell? ⟨gb149, 0, none⟩ = some (.int .i64 a1_0) := cz_ BK149 0; have hcz5_1 : w4.cell? ⟨gb149, 1, none⟩ = some (.int .i64 a1_1) := cz_ BK149 1; have hcz5_2 : w4.cell? ⟨gb149, 2, none⟩ = some (.int .i64 a1_2) := cz_ BK149 2; have hfz5_0 := fz_ BK149 0; have hfz5_1 := fz_ BK149 1; have hfz5_2 := fz_ BK149 2) | (go_at_call 71; (with_reducible refine (spec_l01Power.calls k a0 (wrap64 (6 - a1_2)) t150 _ A3.out).mono ?_); rintro e w' ⟨rfl, ⟨nd, rfl⟩⟩; (try first | exact ⟨rfl, _, World.drewN_drewN _ _ _⟩ | exact ⟨rfl, _, Eq.trans (World.drewN_drewN _ _ _) (congrArg (World.drewN _) (Nat.add_assoc _ _ _))⟩))); try go_wp2_with (first | ((with_reducible refine gate_dst (N := 3) rfl ?_); refine bx_ 3 #[.int .i64 a1_0, .int .i64 a1_1, .int .i64 a1_2] 25 ?_; intro gb149 hg w4 hbox hb; have BK149 := Aside0.mk (hbox); have GW149 := bs_ HB hg; have GE149 := bs_ HB hg; replace HB := bt_ HB hb; clear hb hbox hg; have hcz5_0 : w4.cell? ⟨gb149, 0, none⟩ = some (.int .i64 a1_0) := cz_ BK149 0; have hcz5_1 : w4.cell? ⟨gb149, 1, none⟩ = some (.int .i64 a1_1) := cz_ BK149 1; have hcz5_2 : w4.cell? ⟨gb149, 2, none⟩ = some (.int .i64 a1_2) := cz_ BK149 2; have hfz5_0 := fz_ BK149 0; have hfz5_1 := fz_ BK149 1; have hfz5_2 := fz_ BK149 2) | (go_at_call 71; (with_reducible refine (spec_l01Power.calls k a0 (wrap64 (6 - a1_2)) t150 _ A3.out).mono ?_); rintro e w' ⟨rfl, ⟨nd, rfl⟩⟩; (try first | exact ⟨rfl, _, World.drewN_drewN _ _ _⟩ | exact ⟨rfl, _, Eq.trans (World.drewN_drewN _ _ _) (congrArg (World.drewN _) (Nat.add_assoc _ _ _))⟩))))
 go_ret
 exact ⟨by first | rfl | (simp [errW_none, errW_some] <;> rfl) | (simp [*, errW_none, errW_some] <;> rfl), by repeat (first | (with_reducible first | exact HB.out | apply below_alloc | apply pw_below_drewN | apply below_drew1 | refine below_set ?_ GE149.out) | exact HB.out)⟩
end Go.Proofs.Ytbldceikdajdlaa.QC
