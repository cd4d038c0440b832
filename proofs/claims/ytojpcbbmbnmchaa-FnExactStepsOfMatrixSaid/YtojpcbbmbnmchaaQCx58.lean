-- Written by a program of this session out of Lean's own print of the loaded program; Lean checks it.
import Derived.Test.YtojpcbbmbnmchaaQCx4
import Derived.Test.YtojpcbbmbnmchaaQCx12
import Derived.Test.YtojpcbbmbnmchaaQCx18
import Derived.Test.YtojpcbbmbnmchaaQCx28
namespace Go.Proofs.Ytojpcbbmbnmchaa.QC
open Go.RowKit Go.Proofs.YtojpcbbmbnmchaaW.PrintWords Go.Proofs.YtojpcbbmbnmchaaW.PrintLast Go.Proofs.YtojpcbbmbnmchaaW.PrintMore
attribute [local go_sem] isSome_setCell max2_int min2_int max_two min_two max_three min_three max_four min_four   -- for this text's walks alone
set_option linter.unusedVariables false
set_option linter.unusedSimpArgs false

/-! ### spec_l02Valuation: function 104 -/
def spec_l02Valuation.f (k : Nat) (a0 : Int) (a1_0 : Int) (a1_1 : Int) (a1_2 : Int) (a2_0 : Int) (a2_1 : Int) (a2_2 : Int) : Option (Int × Bool) := (spec_l01Power.f k a0 (wrap64 ((mx a1_2 a2_2) - a1_2))).bind fun t394 => ((spec_l01Power.f k a0 (wrap64 ((mx a1_2 a2_2) - a2_2))).bind fun t395 => (if (wrap64 ((wrap64 (a1_1 * t394)) - (wrap64 (a2_1 * t395)))) = 0 then (some (0, false)) else ((spec_l01Val.f k a0 (wrap64 ((wrap64 (a1_1 * t394)) - (wrap64 (a2_1 * t395))))).bind fun t396 => (some (wrap64 (t396 - (mx a1_2 a2_2)), true)))))
set_option maxHeartbeats 8000000 in
set_option maxRecDepth 100000 in
theorem spec_l02Valuation.calls (k : Nat) (a0 : Int) (a1_0 : Int) (a1_1 : Int) (a1_2 : Int) (a2_0 : Int) (a2_1 : Int) (a2_2 : Int) (r1 : Int) (r2 : Bool) (w : World) (h : spec_l02Valuation.f k a0 a1_0 a1_1 a1_2 a2_0 a2_1 a2_2 = some (r1, r2)) :
  Calls Try.prog 104 #[.int .i64 a0, .agg #[.int .i64 a1_0, .int .i64 a1_1, .int .i64 a1_2], .agg #[.int .i64 a2_0, .int .i64 a2_1, .int .i64 a2_2]] w fun e w' => e = .returned (.tuple #[.int .i64 r1, .bool r2]) ∧ Below w.heap.size w w' := by
 have hu28 := Try.underlying28
 have HB := Aside0.mk (Below.refl w.heap.size w)
 have H : ((spec_l01Power.f k a0 (wrap64 ((mx a1_2 a2_2) - a1_2))).bind fun t394 => ((spec_l01Power.f k a0 (wrap64 ((mx a1_2 a2_2) - a2_2))).bind fun t395 => (if (wrap64 ((wrap64 (a1_1 * t394)) - (wrap64 (a2_1 * t395)))) = 0 then (some (0, false)) else ((spec_l01Val.f k a0 (wrap64 ((wrap64 (a1_1 * t394)) - (wrap64 (a2_1 * t395))))).bind fun t396 => (some (wrap64 (t396 - (mx a1_2 a2_2)), true)))))) = some (r1, r2) := h
 clear h
 obtain ⟨ji4, hji4⟩ : ∃ j_ : Int, (mx a1_2 a2_2) = j_ := ⟨_, rfl⟩
 replace H : ((spec_l01Power.f k a0 (wrap64 ((ji4) - a1_2))).bind fun t394 => ((spec_l01Power.f k a0 (wrap64 ((ji4) - a2_2))).bind fun t395 => (if (wrap64 ((wrap64 (a1_1 * t394)) - (wrap64 (a2_1 * t395)))) = 0 then (some (0, false)) else ((spec_l01Val.f k a0 (wrap64 ((wrap64 (a1_1 * t394)) - (wrap64 (a2_1 * t395))))).bind fun t396 => (some (wrap64 (t396 - (ji4)), true)))))) = some (r1, r2) := by first | (rw [hji4] at H; exact H) | (simp only [hji4] at H ⊢; exact H)
 have hji4_ : (if a1_2 < a2_2 then a2_2 else a1_2) = ji4 := hji4
 replace H := Option.bind_eq_some_iff.mp H
 obtain ⟨t394, A50, H⟩ := H
 have A5 := Aside0.mk A50
 clear A50
 replace H := Option.bind_eq_some_iff.mp H
 obtain ⟨t395, A60, H⟩ := H
 have A6 := Aside0.mk A60
 clear A60
 by_cases c7 : (wrap64 ((wrap64 (a1_1 * t394)) - (wrap64 (a2_1 * t395)))) = 0
 ·rw [if_pos c7] at H
  have c7b0 : ((wrap64 ((wrap64 (a1_1 * t394)) - (wrap64 (a2_1 * t395)))) == 0) = true := beq_iff_eq.mpr c7
  have c7b1 : ((wrap64 ((wrap64 (a1_1 * t394)) - (wrap64 (a2_1 * t395)))) != 0) = false := bne_eq_false_iff_eq.mpr c7
  clear c7
  simp only [Option.some.injEq, Prod.mk.injEq] at H
  obtain ⟨rfl, rfl⟩ := H
  go_enter Try.func104, Try.ntmps104
  go_wp2_with (first | ((with_reducible refine gate_dst (N := 4) rfl ?_); refine bx_ 4 #[.int .i64 a1_0, .int .i64 a1_1, .int .i64 a1_2] 28 ?_; intro gb392 hg w8 hbox hb; have BK392 := Aside0.mk (hbox); have GW392 := bs_ HB hg; have GE392 := bs_ HB hg; replace HB := bt_ HB hb; clear hb hbox hg) | ((with_reducible refine gate_dst (N := 5) rfl ?_); refine bx_ 5 #[.int .i64 a2_0, .int .i64 a2_1, .int .i64 a2_2] 28 ?_; intro gb393 hg w9 hbox hb; have BK393 := Aside0.mk (hbox); have GW393 := bs_ HB hg; have GE393 := bs_ HB hg; have NB392_393 := bm_ BK392 hg; have NB393_392 := bn_ BK392 hg; replace BK392 := bb_ BK392 hb; replace HB := bt_ HB hb; clear hb hbox hg; have hnb10 := NB392_393.out; have hnc10 := NB393_392.out; have hcz11_0 : w9.cell? ⟨gb392, 0, none⟩ = some (.int .i64 a1_0) := (blk_cell BK392.out 0).trans rfl; have hcz11_1 : w9.cell? ⟨gb392, 1, none⟩ = some (.int .i64 a1_1) := (blk_cell BK392.out 1).trans rfl; have hcz11_2 : w9.cell? ⟨gb392, 2, none⟩ = some (.int .i64 a1_2) := (blk_cell BK392.out 2).trans rfl; have hfz11_0 := blk_frozen BK392.out 0; have hfz11_1 := blk_frozen BK392.out 1; have hfz11_2 := blk_frozen BK392.out 2; have hcz12_0 : w9.cell? ⟨gb393, 0, none⟩ = some (.int .i64 a2_0) := (blk_cell BK393.out 0).trans rfl; have hcz12_1 : w9.cell? ⟨gb393, 1, none⟩ = some (.int .i64 a2_1) := (blk_cell BK393.out 1).trans rfl; have hcz12_2 : w9.cell? ⟨gb393, 2, none⟩ = some (.int .i64 a2_2) := (blk_cell BK393.out 2).trans rfl; have hfz12_0 := blk_frozen BK393.out 0; have hfz12_1 := blk_frozen BK393.out 1; have hfz12_2 := blk_frozen BK393.out 2) | (go_at_call 72; (with_reducible refine (spec_l01Power.calls k a0 (wrap64 ((ji4) - a1_2)) t394 _ A5.out).mono ?_); rintro e w' ⟨rfl, ⟨nd, rfl⟩⟩; (try first | exact ⟨rfl, _, World.drewN_drewN _ _ _⟩ | exact ⟨rfl, _, Eq.trans (World.drewN_drewN _ _ _) (congrArg (World.drewN _) (Nat.add_assoc _ _ _))⟩)) | (go_at_call 72; (with_reducible refine (spec_l01Power.calls k a0 (wrap64 ((ji4) - a2_2)) t395 _ A6.out).mono ?_); rintro e w' ⟨rfl, ⟨nd, rfl⟩⟩; (try first | exact ⟨rfl, _, World.drewN_drewN _ _ _⟩ | exact ⟨rfl, _, Eq.trans (World.drewN_drewN _ _ _) (congrArg (World.drewN _) (Nat.add_assoc _ _ _))⟩)))
  repeat (go_quiet (first | ((with_reducible refine gate_dst (N := 4) rfl ?_); refine bx_ 4 #[.int .i64 a1_0, .int .i64 a1_1, .int .i64 a1_2] 28 ?_; intro gb392 hg w8 hbox hb; have BK392 := Aside0.mk (hbox); have GW392 := bs_ HB hg; have GE392 := bs_ HB hg; replace HB := bt_ HB hb; clear hb hbox hg) | ((with_reducible refine gate_dst (N := 5) rfl ?_); refine bx_ 5 #[.int .i64 a2_0, .int .i64 a2_1, .int .i64 a2_2] 28 ?_; intro gb393 hg w9 hbox hb; have BK393 := Aside0.mk (hbox); have GW393 := bs_ HB hg; have GE393 := bs_ HB hg; have NB392_393 := bm_ BK392 hg; have NB393_392 := bn_ BK392 hg; replace BK392 := bb_ BK392 hb; replace HB := bt_ HB hb; clear hb hbox hg; have hnb10 := NB392_393.out; have hnc10 := NB393_392.out; have hcz11_0 : w9.cell? ⟨gb392, 0, none⟩ = some (.int .i64 a1_0) := (blk_cell BK392.out 0).trans rfl; have hcz11_1 : w9.cell? ⟨gb392, 1, none⟩ = some (.int .i64 a1_1) := (blk_cell BK392.out 1).trans rfl; have hcz11_2 : w9.cell? ⟨gb392, 2, none⟩ = some (.int .i64 a1_2) := (blk_cell BK392.out 2).trans rfl; have hfz11_0 := blk_frozen BK392.out 0; have hfz11_1 := blk_frozen BK392.out 1; have hfz11_2 := blk_frozen BK392.out 2; have hcz12_0 : w9.cell? ⟨gb393, 0, none⟩ = some (.int .i64 a2_0) := (blk_cell BK393.out 0).trans rfl; have hcz12_1 : w9.cell? ⟨gb393, 1, none⟩ = some (.int .i64 a2_1) := (blk_cell BK393.out 1).trans rfl; have hcz12_2 : w9.cell? ⟨gb393, 2, none⟩ = some (.int .i64 a2_2) := (blk_cell BK393.out 2).trans rfl; have hfz12_0 := blk_frozen BK393.out 0; have hfz12_1 := blk_frozen BK393.out 1; have hfz12_2 := blk_frozen BK393.out 2) | (go_at_call 72; (with_reducible refine (spec_l01Power.calls k a0 (wrap64 ((ji4) - a1_2)) t394 _ A5.out).mono ?_); rintro e w' ⟨rfl, ⟨nd, rfl⟩⟩; (try first | exact ⟨rfl, _, World.drewN_drewN _ _ _⟩ | exact ⟨rfl, _, Eq.trans (World.drewN_drewN _ _ _) (congrArg (World.drewN _) (Nat.add_assoc _ _ _))⟩)) | (go_at_call 72; (with_reducible refine (spec_l01Power.calls k a0 (wrap64 ((ji4) - a2_2)) t395 _ A6.out).mono ?_); rintro e w' ⟨rfl, ⟨nd, rfl⟩⟩; (try first | exact ⟨rfl, _, World.drewN_drewN _ _ _⟩ | exact ⟨rfl, _, Eq.trans (World.drewN_drewN _ _ _) (congrArg (World.drewN _) (Nat.add_assoc _ _ _))⟩))); try go_wp2_with (first | ((with_reducible refine gate_dst (N := 4) rfl ?_); refine bx_ 4 #[.int .i64 a1_0, .int .i64 a1_1, .int .i64 a1_2] 28 ?_; intro gb392 hg w8 hbox hb; have BK392 := Aside0.mk (hbox); have GW392 := bs_ HB hg; have GE392 := bs_ HB hg; replace HB := bt_ HB hb; clear hb hbox hg) | ((with_reducible refine gate_dst (N := 5) rfl ?_); refine bx_ 5 #[.int .i64 a2_0, .int .i64 a2_1, .int .i64 a2_2] 28 ?_; intro gb393 hg w9 hbox hb; have BK393 := Aside0.mk (hbox); have GW393 := bs_ HB hg; have GE393 := bs_ HB hg; have NB392_393 := bm_ BK392 hg; have NB393_392 := bn_ BK392 hg; replace BK392 := bb_ BK392 hb; replace HB := bt_ HB hb; clear hb hbox hg; have hnb10 := NB392_393.out; have hnc10 := NB393_392.out; have hcz11_0 : w9.cell? ⟨gb392, 0, none⟩ = some (.int .i64 a1_0) := (blk_cell BK392.out 0).trans rfl; have hcz11_1 : w9.cell? ⟨gb392, 1, none⟩ = some (.int .i64 a1_1) := (blk_cell BK392.out 1).trans rfl; have hcz11_2 : w9.cell? ⟨gb392, 2, none⟩ = some (.int .i64 a1_2) := (blk_cell BK392.out 2).trans rfl; have hfz11_0 := blk_frozen BK392.out 0; have hfz11_1 := blk_frozen BK392.out 1; have hfz11_2 := blk_frozen BK392.out 2; have hcz12_0 : w9.cell? ⟨gb393, 0, none⟩ = some (.int .i64 a2_0) := (blk_cell BK393.out 0).trans rfl; have hcz12_1 : w9.cell? ⟨gb393, 1, none⟩ = some (.int .i64 a2_1) := (blk_cell BK393.out 1).trans rfl; have hcz12_2 : w9.cell? ⟨gb393, 2, none⟩ = some (.int .i64 a2_2) := (blk_cell BK393.out 2).trans rfl; have hfz12_0 := blk_frozen BK393.out 0; have hfz12_1 := blk_frozen BK393.out 1; have hfz12_2 := blk_frozen BK393.out 2) | (go_at_call 72; (with_reducible refine (spec_l01Power.calls k a0 (wrap64 ((ji4) - a1_2)) t394 _ A5.out).mono ?_); rintro e w' ⟨rfl, ⟨nd, rfl⟩⟩; (try first | exact ⟨rfl, _, World.drewN_drewN _ _ _⟩ | exact ⟨rfl, _, Eq.trans (World.drewN_drewN _ _ _) (congrArg (World.drewN _) (Nat.add_assoc _ _ _))⟩)) | (go_at_call 72; (with_reducible refine (spec_l01Power.calls k a0 (wrap64 ((ji4) - a2_2)) t395 _ A6.out).mono ?_); rintro e w' ⟨rfl, ⟨nd, rfl⟩⟩; (try first | exact ⟨rfl, _, World.drewN_drewN _ _ _⟩ | exact ⟨rfl, _, Eq.trans (World.drewN_drewN _ _ _) (congrArg (World.drewN _) (Nat.add_assoc _ _ _))⟩))))
  go_ret2
  exact ⟨by first | rfl | (simp [errW_none, errW_some] <;> rfl) | (simp only [← hji4]; first | rfl | (simp [errW_none, errW_some] <;> rfl)) | (simp [*, errW_none, errW_some] <;> rfl), by repeat (first | (with_reducible first | exact HB.out | apply below_alloc | apply pw_below_drewN | apply below_drew1 | refine below_set ?_ GE392.out | refine below_set ?_ GE393.out) | exact HB.out)⟩
 ·rw [if_neg c7] at H
  have c7b0 : ((wrap64 ((wrap64 (a1_1 * t394)) - (wrap64 (a2_1 * t395)))) == 0) = false := beq_eq_false_iff_ne.mpr c7
  have c7b1 : ((wrap64 ((wrap64 (a1_1 * t394)) - (wrap64 (a2_1 * t395)))) != 0) = true := bne_iff_ne.mpr c7
  replace H := Option.bind_eq_some_iff.mp H
  obtain ⟨t396, A130, H⟩ := H
  have A13 := Aside0.mk A130
  clear A130
  simp only [Option.some.injEq, Prod.mk.injEq] at H
  obtain ⟨rfl, rfl⟩ := H
  go_enter Try.func104, Try.ntmps104
  go_wp2_with (first | ((with_reducible refine gate_dst (N := 4) rfl ?_); refine bx_ 4 #[.int .i64 a1_0, .int .i64 a1_1, .int .i64 a1_2] 28 ?_; intro gb392 hg w14 hbox hb; have BK392 := Aside0.mk (hbox); have GW392 := bs_ HB hg; have GE392 := bs_ HB hg; replace HB := bt_ HB hb; clear hb hbox hg) | ((with_reducible refine gate_dst (N := 5) rfl ?_); refine bx_ 5 #[.int .i64 a2_0, .int .i64 a2_1, .int .i64 a2_2] 28 ?_; intro gb393 hg w15 hbox hb; have BK393 := Aside0.mk (hbox); have GW393 := bs_ HB hg; have GE393 := bs_ HB hg; have NB392_393 := bm_ BK392 hg; have NB393_392 := bn_ BK392 hg; replace BK392 := bb_ BK392 hb; replace HB := bt_ HB hb; clear hb hbox hg; have hnb16 := NB392_393.out; have hnc16 := NB393_392.out; have hcz17_0 : w15.cell? ⟨gb392, 0, none⟩ = some (.int .i64 a1_0) := (blk_cell BK392.out 0).trans rfl; have hcz17_1 : w15.cell? ⟨gb392, 1, none⟩ = some (.int .i64 a1_1) := (blk_cell BK392.out 1).trans rfl; have hcz17_2 : w15.cell? ⟨gb392, 2, none⟩ = some (.int .i64 a1_2) := (blk_cell BK392.out 2).trans rfl; have hfz17_0 := blk_frozen BK392.out 0; have hfz17_1 := blk_frozen BK392.out 1; have hfz17_2 := blk_frozen BK392.out 2; have hcz18_0 : w15.cell? ⟨gb393, 0, none⟩ = some (.int .i64 a2_0) := (blk_cell BK393.out 0).trans rfl; have hcz18_1 : w15.cell? ⟨gb393, 1, none⟩ = some (.int .i64 a2_1) := (blk_cell BK393.out 1).trans rfl; have hcz18_2 : w15.cell? ⟨gb393, 2, none⟩ = some (.int .i64 a2_2) := (blk_cell BK393.out 2).trans rfl; have hfz18_0 := blk_frozen BK393.out 0; have hfz18_1 := blk_frozen BK393.out 1; have hfz18_2 := blk_frozen BK393.out 2) | (go_at_call 72; (with_reducible refine (spec_l01Power.calls k a0 (wrap64 ((ji4) - a1_2)) t394 _ A5.out).mono ?_); rintro e w' ⟨rfl, ⟨nd, rfl⟩⟩; (try first | exact ⟨rfl, _, World.drewN_drewN _ _ _⟩ | exact ⟨rfl, _, Eq.trans (World.drewN_drewN _ _ _) (congrArg (World.drewN _) (Nat.add_assoc _ _ _))⟩)) | (go_at_call 72; (with_reducible refine (spec_l01Power.calls k a0 (wrap64 ((ji4) - a2_2)) t395 _ A6.out).mono ?_); rintro e w' ⟨rfl, ⟨nd, rfl⟩⟩; (try first | exact ⟨rfl, _, World.drewN_drewN _ _ _⟩ | exact ⟨rfl, _, Eq.trans (World.drewN_drewN _ _ _) (congrArg (World.drewN _) (Nat.add_assoc _ _ _))⟩)) | (go_at_call 73; (with_reducible refine (spec_l01Val.calls k a0 (wrap64 ((wrap64 (a1_1 * t394)) - (wrap64 (a2_1 * t395)))) t396 _ A13.out).mono ?_); rintro e w' ⟨rfl, ⟨nd, rfl⟩⟩; (try first | exact ⟨rfl, _, World.drewN_drewN _ _ _⟩ | exact ⟨rfl, _, Eq.trans (World.drewN_drewN _ _ _) (congrArg (World.drewN _) (Nat.add_assoc _ _ _))⟩)))
  repeat (go_quiet (first | ((with_reducible refine gate_dst (N := 4) rfl ?_); refine bx_ 4 #[.int .i64 a1_0, .int .i64 a1_1, .int .i64 a1_2] 28 ?_; intro gb392 hg w14 hbox hb; have BK392 := Aside0.mk (hbox); have GW392 := bs_ HB hg; have GE392 := bs_ HB hg; replace HB := bt_ HB hb; clear hb hbox hg) | ((with_reducible refine gate_dst (N := 5) rfl ?_); refine bx_ 5 #[.int .i64 a2_0, .int .i64 a2_1, .int .i64 a2_2] 28 ?_; intro gb393 hg w15 hbox hb; have BK393 := Aside0.mk (hbox); have GW393 := bs_ HB hg; have GE393 := bs_ HB hg; have NB392_393 := bm_ BK392 hg; have NB393_392 := bn_ BK392 hg; replace BK392 := bb_ BK392 hb; replace HB := bt_ HB hb; clear hb hbox hg; have hnb16 := NB392_393.out; have hnc16 := NB393_392.out; have hcz17_0 : w15.cell? ⟨gb392, 0, none⟩ = some (.int .i64 a1_0) := (blk_cell BK392.out 0).trans rfl; have hcz17_1 : w15.cell? ⟨gb392, 1, none⟩ = some (.int .i64 a1_1) := (blk_cell BK392.out 1).trans rfl; have hcz17_2 : w15.cell? ⟨gb392, 2, none⟩ = some (.int .i64 a1_2) := (blk_cell BK392.out 2).trans rfl; have hfz17_0 := blk_frozen BK392.out 0; have hfz17_1 := blk_frozen BK392.out 1; have hfz17_2 := blk_frozen BK392.out 2; have hcz18_0 : w15.cell? ⟨gb393, 0, none⟩ = some (.int .i64 a2_0) := (blk_cell BK393.out 0).trans rfl; have hcz18_1 : w15.cell? ⟨gb393, 1, none⟩ = some (.int .i64 a2_1) := (blk_cell BK393.out 1).trans rfl; have hcz18_2 : w15.cell? ⟨gb393, 2, none⟩ = some (.int .i64 a2_2) := (blk_cell BK393.out 2).trans rfl; have hfz18_0 := blk_frozen BK393.out 0; have hfz18_1 := blk_frozen BK393.out 1; have hfz18_2 := blk_frozen BK393.out 2) | (go_at_call 72; (with_reducible refine (spec_l01Power.calls k a0 (wrap64 ((ji4) - a1_2)) t394 _ A5.out).mono ?_); rintro e w' ⟨rfl, ⟨nd, rfl⟩⟩; (try first | exact ⟨rfl, _, World.drewN_drewN _ _ _⟩ | exact ⟨rfl, _, Eq.trans (World.drewN_drewN _ _ _) (congrArg (World.drewN _) (Nat.add_assoc _ _ _))⟩)) | (go_at_call 72; (with_reducible refine (spec_l01Power.calls k a0 (wrap64 ((ji4) - a2_2)) t395 _ A6.out).mono ?_); rintro e w' ⟨rfl, ⟨nd, rfl⟩⟩; (try first | exact ⟨rfl, _, World.drewN_drewN _ _ _⟩ | exact ⟨rfl, _, Eq.trans (World.drewN_drewN _ _ _) (congrArg (World.drewN _) (Nat.add_assoc _ _ _))⟩)) | (go_at_call 73; (with_reducible refine (spec_l01Val.calls k a0 (wrap64 ((wrap64 (a1_1 * t394)) - (wrap64 (a2_1 * t395)))) t396 _ A13.out).mono ?_); rintro e w' ⟨rfl, ⟨nd, rfl⟩⟩; (try first | exact ⟨rfl, _, World.drewN_drewN _ _ _⟩ | exact ⟨rfl, _, Eq.trans (World.drewN_drewN _ _ _) (congrArg (World.drewN _) (Nat.add_assoc _ _ _))⟩))); try go_wp2_with (first | ((with_reducible refine gate_dst (N := 4) rfl ?_); refine bx_ 4 #[.int .i64 a1_0, .int .i64 a1_1, .int .i64 a1_2] 28 ?_; intro gb392 hg w14 hbox hb; have BK392 := Aside0.mk (hbox); have GW392 := bs_ HB hg; have GE392 := bs_ HB hg; replace HB := bt_ HB hb; clear hb hbox hg) | ((with_reducible refine gate_dst (N := 5) rfl ?_); refine bx_ 5 #[.int .i64 a2_0, .int .i64 a2_1, .int .i64 a2_2] 28 ?_; intro gb393 hg w15 hbox hb; have BK393 := Aside0.mk (hbox); have GW393 := bs_ HB hg; have GE393 := bs_ HB hg; have NB392_393 := bm_ BK392 hg; have NB393_392 := bn_ BK392 hg; replace BK392 := bb_ BK392 hb; replace HB := bt_ HB hb; clear hb hbox hg; have hnb16 := NB392_393.out; have hnc16 := NB393_392.out; have hcz17_0 : w15.cell? ⟨gb392, 0, none⟩ = some (.int .i64 a1_0) := (blk_cell BK392.out 0).trans rfl; have hcz17_1 : w15.cell? ⟨gb392, 1, none⟩ = some (.int .i64 a1_1) := (blk_cell BK392.out 1).trans rfl; have hcz17_2 : w15.cell? ⟨gb392, 2, none⟩ = some (.int .i64 a1_2) := (blk_cell BK392.out 2).trans rfl; have hfz17_0 := blk_frozen BK392.out 0; have hfz17_1 := blk_frozen BK392.out 1; have hfz17_2 := blk_frozen BK392.out 2; have hcz18_0 : w15.cell? ⟨gb393, 0, none⟩ = some (.int .i64 a2_0) := (blk_cell BK393.out 0).trans rfl; have hcz18_1 : w15.cell? ⟨gb393, 1, none⟩ = some (.int .i64 a2_1) := (blk_cell BK393.out 1).trans rfl; have hcz18_2 : w15.cell? ⟨gb393, 2, none⟩ = some (.int .i64 a2_2) := (blk_cell BK393.out 2).trans rfl; have hfz18_0 := blk_frozen BK393.out 0; have hfz18_1 := blk_frozen BK393.out 1; have hfz18_2 := blk_frozen BK393.out 2) | (go_at_call 72; (with_reducible refine (spec_l01Power.calls k a0 (wrap64 ((ji4) - a1_2)) t394 _ A5.out).mono ?_); rintro e w' ⟨rfl, ⟨nd, rfl⟩⟩; (try first | exact ⟨rfl, _, World.drewN_drewN _ _ _⟩ | exact ⟨rfl, _, Eq.trans (World.drewN_drewN _ _ _) (congrArg (World.drewN _) (Nat.add_assoc _ _ _))⟩)) | (go_at_call 72; (with_reducible refine (spec_l01Power.calls k a0 (wrap64 ((ji4) - a2_2)) t395 _ A6.out).mono ?_); rintro e w' ⟨rfl, ⟨nd, rfl⟩⟩; (try first | exact ⟨rfl, _, World.drewN_drewN _ _ _⟩ | exact ⟨rfl, _, Eq.trans (World.drewN_drewN _ _ _) (congrArg (World.drewN _) (Nat.add_assoc _ _ _))⟩)) | (go_at_call 73; (with_reducible refine (spec_l01Val.calls k a0 (wrap64 ((wrap64 (a1_1 * t394)) - (wrap64 (a2_1 * t395)))) t396 _ A13.out).mono ?_); rintro e w' ⟨rfl, ⟨nd, rfl⟩⟩; (try first | exact ⟨rfl, _, World.drewN_drewN _ _ _⟩ | exact ⟨rfl, _, Eq.trans (World.drewN_drewN _ _ _) (congrArg (World.drewN _) (Nat.add_assoc _ _ _))⟩))))
  go_ret2
  exact ⟨by first | rfl | (simp [errW_none, errW_some] <;> rfl) | (simp only [← hji4]; first | rfl | (simp [errW_none, errW_some] <;> rfl)) | (simp [*, errW_none, errW_some] <;> rfl), by repeat (first | (with_reducible first | exact HB.out | apply below_alloc | apply pw_below_drewN | apply below_drew1 | refine below_set ?_ GE392.out | refine below_set ?_ GE393.out) | exact HB.out)⟩
/-! ### spec_l02Join: function 87 -/
def spec_l02Join.f (k : Nat) (a0 : Int) (a1_0 : Int) (a1_1 : Int) (a1_2 : Int) (a2_0 : Int) (a2_1 : Int) (a2_2 : Int) : Option (Int) := (spec_l02Valuation.f k a0 a1_0 a1_1 a1_2 a2_0 a2_1 a2_2).bind fun bt399 => (if bt399.2 = true then (some (mn (mn a1_0 a2_0) bt399.1)) else (some (mn a1_0 a2_0)))
set_option maxHeartbeats 8000000 in
set_option maxRecDepth 100000 in
theorem spec_l02Join.calls (k : Nat) (a0 : Int) (a1_0 : Int) (a1_1 : Int) (a1_2 : Int) (a2_0 : Int) (a2_1 : Int) (a2_2 : Int) (r : Int) (w : World) (h : spec_l02Join.f k a0 a1_0 a1_1 a1_2 a2_0 a2_1 a2_2 = some r) :
  Calls Try.prog 87 #[.int .i64 a0, .agg #[.int .i64 a1_0, .int .i64 a1_1, .int .i64 a1_2], .agg #[.int .i64 a2_0, .int .i64 a2_1, .int .i64 a2_2]] w fun e w' => e = .returned (.int .i64 r) ∧ Below w.heap.size w w' := by
 have hu28 := Try.underlying28
 have HB := Aside0.mk (Below.refl w.heap.size w)
 have H : ((spec_l02Valuation.f k a0 a1_0 a1_1 a1_2 a2_0 a2_1 a2_2).bind fun bt399 => (if bt399.2 = true then (some (mn (mn a1_0 a2_0) bt399.1)) else (some (mn a1_0 a2_0)))) = some r := h
 clear h
 obtain ⟨ji4, hji4⟩ : ∃ j_ : Int, (mn a1_0 a2_0) = j_ := ⟨_, rfl⟩
 replace H : ((spec_l02Valuation.f k a0 a1_0 a1_1 a1_2 a2_0 a2_1 a2_2).bind fun bt399 => (if bt399.2 = true then (some (mn (ji4) bt399.1)) else (some ji4))) = some r := by first | (rw [hji4] at H; exact H) | (simp only [hji4] at H ⊢; exact H)
 have hji4_ : (if a2_0 < a1_0 then a2_0 else a1_0) = ji4 := hji4
 replace H := Option.bind_eq_some_iff.mp H
 obtain ⟨⟨t399, t400⟩, A50, H⟩ := H
 have A5 := Aside0.mk A50
 clear A50
 by_cases c6 : t400 = true
 ·subst c6
  have H1 : (some (mn (ji4) t399)) = some r := by rw [if_pos rfl] at H; exact H
  clear H
  have H := H1
  clear H1
  obtain ⟨ji7, hji7⟩ : ∃ j_ : Int, (mn (ji4) t399) = j_ := ⟨_, rfl⟩
  replace H : (some ji7) = some r := by first | (rw [hji7] at H; exact H) | (simp only [hji7] at H ⊢; exact H)
  (try rw [hji7] at A5)
  have hji7_ : (if t399 < (ji4) then t399 else (ji4)) = ji7 := hji7
  obtain rfl := Option.some.inj H
  go_enter Try.func87, Try.ntmps87
  go_wp2_with (first | ((with_reducible refine gate_dst (N := 4) rfl ?_); refine bx_ 4 #[.int .i64 a1_0, .int .i64 a1_1, .int .i64 a1_2] 28 ?_; intro gb397 hg w8 hbox hb; have BK397 := Aside0.mk (hbox); have GW397 := bs_ HB hg; have GE397 := bs_ HB hg; replace HB := bt_ HB hb; clear hb hbox hg) | ((with_reducible refine gate_dst (N := 5) rfl ?_); refine bx_ 5 #[.int .i64 a2_0, .int .i64 a2_1, .int .i64 a2_2] 28 ?_; intro gb398 hg w9 hbox hb; have BK398 := Aside0.mk (hbox); have GW398 := bs_ HB hg; have GE398 := bs_ HB hg; have NB397_398 := bm_ BK397 hg; have NB398_397 := bn_ BK397 hg; replace BK397 := bb_ BK397 hb; replace HB := bt_ HB hb; clear hb hbox hg; have hnb10 := NB397_398.out; have hnc10 := NB398_397.out; have hcz11_0 : w9.cell? ⟨gb397, 0, none⟩ = some (.int .i64 a1_0) := (blk_cell BK397.out 0).trans rfl; have hcz11_1 : w9.cell? ⟨gb397, 1, none⟩ = some (.int .i64 a1_1) := (blk_cell BK397.out 1).trans rfl; have hcz11_2 : w9.cell? ⟨gb397, 2, none⟩ = some (.int .i64 a1_2) := (blk_cell BK397.out 2).trans rfl; have hfz11_0 := blk_frozen BK397.out 0; have hfz11_1 := blk_frozen BK397.out 1; have hfz11_2 := blk_frozen BK397.out 2; have hcz12_0 : w9.cell? ⟨gb398, 0, none⟩ = some (.int .i64 a2_0) := (blk_cell BK398.out 0).trans rfl; have hcz12_1 : w9.cell? ⟨gb398, 1, none⟩ = some (.int .i64 a2_1) := (blk_cell BK398.out 1).trans rfl; have hcz12_2 : w9.cell? ⟨gb398, 2, none⟩ = some (.int .i64 a2_2) := (blk_cell BK398.out 2).trans rfl; have hfz12_0 := blk_frozen BK398.out 0; have hfz12_1 := blk_frozen BK398.out 1; have hfz12_2 := blk_frozen BK398.out 2) | ((with_reducible refine gate_callee (f := 104) rfl ?_); refine goesL_ (some 19) rfl rfl Try.func104 (by kernel_rfl) rfl #[.int .i64 a0, .agg #[.int .i64 a1_0, .int .i64 a1_1, .int .i64 a1_2], .agg #[.int .i64 a2_0, .int .i64 a2_1, .int .i64 a2_2]] rfl (by (try simp only [List.map_toArray, List.map_cons, List.map_nil]); first | done | rfl | (simp only [List.length_drop, List.length_take]; rfl)) ?_; (with_reducible refine (spec_l02Valuation.calls k a0 a1_0 a1_1 a1_2 a2_0 a2_1 a2_2 t399 true _ A5.out).mono ?_); rintro e w13 ⟨rfl, hb⟩; refine ⟨_, rfl, ?_⟩; replace BK397 := bb_ BK397 hb; replace BK398 := bb_ BK398 hb; replace HB := bt_ HB hb; (try clear hb); (try clear hb2); (try clear hk); (try clear hi)))
  go_ret
  exact ⟨by first | rfl | (simp [errW_none, errW_some] <;> rfl) | (simp only [← hji4, ← hji7]; first | rfl | (simp [errW_none, errW_some] <;> rfl)) | (simp [*, errW_none, errW_some] <;> rfl), by repeat (first | (with_reducible first | exact HB.out | apply below_alloc | apply pw_below_drewN | apply below_drew1 | refine below_set ?_ GE397.out | refine below_set ?_ GE398.out) | exact HB.out)⟩
 ·replace c6 := Bool.eq_false_iff.mpr c6
  subst c6
  have H1 : (some ji4) = some r := by rw [if_neg (show ¬ (false = true) by decide)] at H; exact H
  clear H
  have H := H1
  clear H1
  obtain rfl := Option.some.inj H
  go_enter Try.func87, Try.ntmps87
  go_wp2_with (first | ((with_reducible refine gate_dst (N := 4) rfl ?_); refine bx_ 4 #[.int .i64 a1_0, .int .i64 a1_1, .int .i64 a1_2] 28 ?_; intro gb397 hg w14 hbox hb; have BK397 := Aside0.mk (hbox); have GW397 := bs_ HB hg; have GE397 := bs_ HB hg; replace HB := bt_ HB hb; clear hb hbox hg) | ((with_reducible refine gate_dst (N := 5) rfl ?_); refine bx_ 5 #[.int .i64 a2_0, .int .i64 a2_1, .int .i64 a2_2] 28 ?_; intro gb398 hg w15 hbox hb; have BK398 := Aside0.mk (hbox); have GW398 := bs_ HB hg; have GE398 := bs_ HB hg; have NB397_398 := bm_ BK397 hg; have NB398_397 := bn_ BK397 hg; replace BK397 := bb_ BK397 hb; replace HB := bt_ HB hb; clear hb hbox hg; have hnb16 := NB397_398.out; have hnc16 := NB398_397.out; have hcz17_0 : w15.cell? ⟨gb397, 0, none⟩ = some (.int .i64 a1_0) := (blk_cell BK397.out 0).trans rfl; have hcz17_1 : w15.cell? ⟨gb397, 1, none⟩ = some (.int .i64 a1_1) := (blk_cell BK397.out 1).trans rfl; have hcz17_2 : w15.cell? ⟨gb397, 2, none⟩ = some (.int .i64 a1_2) := (blk_cell BK397.out 2).trans rfl; have hfz17_0 := blk_frozen BK397.out 0; have hfz17_1 := blk_frozen BK397.out 1; have hfz17_2 := blk_frozen BK397.out 2; have hcz18_0 : w15.cell? ⟨gb398, 0, none⟩ = some (.int .i64 a2_0) := (blk_cell BK398.out 0).trans rfl; have hcz18_1 : w15.cell? ⟨gb398, 1, none⟩ = some (.int .i64 a2_1) := (blk_cell BK398.out 1).trans rfl; have hcz18_2 : w15.cell? ⟨gb398, 2, none⟩ = some (.int .i64 a2_2) := (blk_cell BK398.out 2).trans rfl; have hfz18_0 := blk_frozen BK398.out 0; have hfz18_1 := blk_frozen BK398.out 1; have hfz18_2 := blk_frozen BK398.out 2) | ((with_reducible refine gate_callee (f := 104) rfl ?_); refine goesL_ (some 19) rfl rfl Try.func104 (by kernel_rfl) rfl #[.int .i64 a0, .agg #[.int .i64 a1_0, .int .i64 a1_1, .int .i64 a1_2], .agg #[.int .i64 a2_0, .int .i64 a2_1, .int .i64 a2_2]] rfl (by (try simp only [List.map_toArray, List.map_cons, List.map_nil]); first | done | rfl | (simp only [List.length_drop, List.length_take]; rfl)) ?_; (with_reducible refine (spec_l02Valuation.calls k a0 a1_0 a1_1 a1_2 a2_0 a2_1 a2_2 t399 false _ A5.out).mono ?_); rintro e w19 ⟨rfl, hb⟩; refine ⟨_, rfl, ?_⟩; replace BK397 := bb_ BK397 hb; replace BK398 := bb_ BK398 hb; replace HB := bt_ HB hb; (try clear hb); (try clear hb2); (try clear hk); (try clear hi)))
  go_ret
  exact ⟨by first | rfl | (simp [errW_none, errW_some] <;> rfl) | (simp only [← hji4]; first | rfl | (simp [errW_none, errW_some] <;> rfl)) | (simp [*, errW_none, errW_some] <;> rfl), by repeat (first | (with_reducible first | exact HB.out | apply below_alloc | apply pw_below_drewN | apply below_drew1 | refine below_set ?_ GE397.out | refine below_set ?_ GE398.out) | exact HB.out)⟩
/-! ### spec_l02Up: function 88 -/
def spec_l02Up.f (k : Nat) (a0 : Int) (a1_0 : Int) (a1_1 : Int) (a1_2 : Int) (a2 : Int) : Option (Int × Int × Int × Bool) := (spec_l01Power.f k a0 a1_2).bind fun t403 => ((spec_l01Of.f k a0 a1_1 t403 a2).bind fun bt404 => (some (bt404.1, bt404.2.1, bt404.2.2.1, bt404.2.2.2)))
def spec_l02Up.T1 : Bool × List (List Nat × List Nat) := (true, [([], []), ([], []), ([1], [1]), ([], []), ([], []), ([4], [4]), ([3, 5], [3, 5]), ([], []), ([0, 2, 6, 7, 6], [0, 2, 6, 7]), ([8], [8]), ([8], [8]), ([9, 8, 0, 1, 2, 3, 4, 5, 6, 7, 8, 9, 10], [9]), ([10, 11, 0, 1, 2, 3, 4, 5, 6, 7, 8, 9, 10, 11], [10])])
def spec_l02Up.B1 : List Nat := [0, 0, 2, 0, 0, 16, 56, 0, 255, 511, 511, 2047, 4095]
theorem spec_l02Up.tab1 : rtab .any (opsOf Try.f88 1) = spec_l02Up.T1 := by kernel_rfl
theorem spec_l02Up.bits1 : waitsOk spec_l02Up.T1.2 spec_l02Up.B1 = true := by kernel_rfl
set_option maxHeartbeats 8000000 in
set_option maxRecDepth 100000 in
theorem spec_l02Up.calls (k : Nat) (a0 : Int) (a1_0 : Int) (a1_1 : Int) (a1_2 : Int) (a2 : Int) (r1 : Int) (r2 : Int) (r3 : Int) (r4 : Bool) (w : World) (h : spec_l02Up.f k a0 a1_0 a1_1 a1_2 a2 = some (r1, r2, r3, r4)) :
  Calls Try.prog 88 #[.int .i64 a0, .agg #[.int .i64 a1_0, .int .i64 a1_1, .int .i64 a1_2], .int .i64 a2] w fun e w' => e = .returned (.tuple #[.agg #[.int .i64 r1, .int .i64 r2, .int .i64 r3], .bool r4]) ∧ Below w.heap.size w w' := by
 have hu28 := Try.underlying28
 have HB := Aside0.mk (Below.refl w.heap.size w)
 have H : ((spec_l01Power.f k a0 a1_2).bind fun t403 => ((spec_l01Of.f k a0 a1_1 t403 a2).bind fun bt404 => (some (bt404.1, bt404.2.1, bt404.2.2.1, bt404.2.2.2)))) = some (r1, r2, r3, r4) := h
 clear h
 replace H := Option.bind_eq_some_iff.mp H
 obtain ⟨t403, A40, H⟩ := H
 have A4 := Aside0.mk A40
 clear A40
 replace H := Option.bind_eq_some_iff.mp H
 obtain ⟨⟨t404, t405, t406, t407⟩, A50, H⟩ := H
 have A5 := Aside0.mk A50
 clear A50
 simp only [Option.some.injEq, Prod.mk.injEq] at H
 obtain ⟨rfl, rfl, rfl, rfl⟩ := H
 go_enter Try.func88, Try.ntmps88
 try go_wp2_with (first | ((with_reducible refine gate_dst (N := 4) rfl ?_); refine bx_ 4 #[.int .i64 a1_0, .int .i64 a1_1, .int .i64 a1_2] 28 ?_; intro gb401 hg w6 hbox hb; have BK401 := Aside0.mk (hbox); have GW401 := bs_ HB hg; have GE401 := bs_ HB hg; replace HB := bt_ HB hb; clear hb hbox hg) | ((with_reducible refine gate_dst (N := 6) rfl ?_); refine bx_ 6 #[.int .i64 0, .int .i64 0, .int .i64 0] 28 ?_; intro gb402 hg w7 hbox hb; have BK402 := Aside0.mk (hbox); have GW402 := bs_ HB hg; have GE402 := bs_ HB hg; have NB401_402 := bm_ BK401 hg; have NB402_401 := bn_ BK401 hg; replace BK401 := bb_ BK401 hb; replace HB := bt_ HB hb; clear hb hbox hg))
 replace BK401 := Aside0.mk (blk_drew BK401.out)
 replace BK402 := Aside0.mk (blk_drew BK402.out)
 replace HB := Aside0.mk (below_drew1 HB.out)
 refine start_ (n := 13) (S := fun w' => w'.cell? ⟨gb401, 0, none⟩ = some (.int .i64 a1_0) ∧ w'.cell? ⟨gb401, 1, none⟩ = some (.int .i64 a1_1) ∧ w'.cell? ⟨gb401, 2, none⟩ = some (.int .i64 a1_2)) (ds := []) #[false, false, false, false, false, false, false, false, false, false, false, false, false] (by kernel_rfl) rfl rfl ⟨(blk_cell BK401.out 0).trans rfl, (blk_cell BK401.out 1).trans rfl, (blk_cell BK401.out 2).trans rfl⟩ (fun hHeld => ?_); refine with_tabW spec_l02Up.tab1 spec_l02Up.bits1 (fun HT_ HW_ => ?_)
 generalize w7.drew = w8 at BK401 BK402 HB hHeld ⊢
 refine pu_ HT_ 0 (some 8) #[true, false, false, false, false, false, false, false, false, false, false, false, false] ?_
 refine pu_ HT_ 1 (some 9) #[true, true, false, false, false, false, false, false, false, false, false, false, false] ?_
 refine pu_ HT_ 3 (some 11) #[true, true, false, true, false, false, false, false, false, false, false, false, false] ?_
 refine pu_ HT_ 4 (some 12) #[true, true, false, true, true, false, false, false, false, false, false, false, false] ?_
 refine pu_ HT_ 7 (some 15) #[true, true, false, true, true, false, false, true, false, false, false, false, false] ?_
 refine ta_ HT_ HW_ 2 (some 10) #[true, true, true, true, true, false, false, true, false, false, false, false, false] hHeld ?_ (hy := by rintro w' ⟨s0, s1, s2⟩; go_simp; with_reducible rfl)
 refine ta_ HT_ HW_ 5 (some 13) #[true, true, true, true, true, true, false, true, false, false, false, false, false] hHeld ?_ (hy := by rintro w' ⟨s0, s1, s2⟩; go_simp; with_reducible rfl)
 refine one_ (i := 6) (N := some 14) #[true, true, true, true, true, true, true, true, false, false, false, false, false] rfl rfl (one_of HT_.out (by kernel_rfl)) (by decide) (fun K hK => ?_)
 refine goes_ Try.func72 (by kernel_rfl) rfl #[.int .i64 a0, .int .i64 a1_2] (by rfl) rfl rfl (by (try simp only [List.map_toArray, List.map_cons, List.map_nil]); first | done | rfl | (simp only [List.length_drop, List.length_take]; rfl)) ?_
 with_reducible refine (spec_l01Power.calls k a0 a1_2 t403 _ A4.out).mono ?_
 rintro e w' ⟨rfl, ⟨nd, rfl⟩⟩
 refine ⟨_, rfl, ?_⟩
 refine hK.out _ _ ⟨(blk_cell BK401.out 0).trans rfl, (blk_cell BK401.out 1).trans rfl, (blk_cell BK401.out 2).trans rfl⟩ (fun hHeld => ?_)
 clear hK K
 refine norm_ (a' := ?_) ?_ ?_
 rotate_left
 ·show Act.put _ (some 14) _ = _
  simp only [Act.put, lstS, lstZ, lstC, i64_w, i32_w]
  rfl
 refine one_ (i := 8) (N := some 16) #[true, true, true, true, true, true, true, true, true, false, false, false, false] rfl rfl (one_of HT_.out (by kernel_rfl)) (by decide) (fun K hK => ?_)
 refine goes_ Try.func74 (by kernel_rfl) rfl #[.int .i64 a0, .int .i64 a1_1, .int .i64 t403, .int .i64 a2] (by rfl) rfl rfl (by (try simp only [List.map_toArray, List.map_cons, List.map_nil]); first | done | rfl | (simp only [List.length_drop, List.length_take]; rfl)) ?_
 with_reducible refine (spec_l01Of.calls k a0 a1_1 t403 a2 t404 t405 t406 t407 _ A5.out).mono ?_
 rintro e w9 ⟨rfl, hb⟩
 refine ⟨_, rfl, ?_⟩
 replace BK401 := bb_ BK401 hb
 replace BK402 := bb_ BK402 hb
 replace HB := bt_ HB hb
 (try clear hb)
 (try clear hb2)
 (try clear hk)
 (try clear hi)
 refine hK.out _ _ ⟨(blk_cell BK401.out 0).trans rfl, (blk_cell BK401.out 1).trans rfl, (blk_cell BK401.out 2).trans rfl⟩ (fun hHeld => ?_)
 clear hK K
 refine norm_ (a' := ?_) ?_ ?_
 rotate_left
 ·show Act.put _ (some 16) _ = _
  simp only [Act.put, lstS, lstZ, lstC, i64_w, i32_w]
  rfl
 refine pu_ HT_ 9 (some 17) #[true, true, true, true, true, true, true, true, true, true, false, false, false] ?_
 refine pu_ HT_ 10 (some 18) #[true, true, true, true, true, true, true, true, true, true, true, false, false] ?_
 refine one_ (i := 11) (N := none) #[true, true, true, true, true, true, true, true, true, true, true, true, false] rfl rfl (one_of HT_.out (by kernel_rfl)) (by decide) (fun K hK => ?_)
 have hs10 : w9.cell? ⟨gb402, 0, none⟩ = some (.int .i64 0) := (blk_cell BK402.out 0).trans rfl
 have hfs10 := blk_frozen BK402.out 0
 have hns10_0 := NB401_402.out
 have hms10_0 := NB402_401.out
 have hs11 : w9.cell? ⟨gb402, 1, none⟩ = some (.int .i64 0) := (blk_cell BK402.out 1).trans rfl
 have hfs11 := blk_frozen BK402.out 1
 have hns11_0 := NB401_402.out
 have hms11_0 := NB402_401.out
 have hs12 : w9.cell? ⟨gb402, 2, none⟩ = some (.int .i64 0) := (blk_cell BK402.out 2).trans rfl
 have hfs12 := blk_frozen BK402.out 2
 have hns12_0 := NB401_402.out
 have hms12_0 := NB402_401.out
 refine skip_ (w1 := ?_) (by rfl) rfl ?_ ?_
 rotate_left
 ·go_simp
  rfl
 refine hK.out _ _ ⟨((cell_far (p := ⟨gb402, _, none⟩) NB401_402.out _).trans (((cell_far (p := ⟨gb402, _, none⟩) NB401_402.out _).trans (((cell_far (p := ⟨gb402, _, none⟩) NB401_402.out _).trans (hHeld.1)))))), ((cell_far (p := ⟨gb402, _, none⟩) NB401_402.out _).trans (((cell_far (p := ⟨gb402, _, none⟩) NB401_402.out _).trans (((cell_far (p := ⟨gb402, _, none⟩) NB401_402.out _).trans (hHeld.2.1)))))), ((cell_far (p := ⟨gb402, _, none⟩) NB401_402.out _).trans (((cell_far (p := ⟨gb402, _, none⟩) NB401_402.out _).trans (((cell_far (p := ⟨gb402, _, none⟩) NB401_402.out _).trans (hHeld.2.2))))))⟩ (fun hHeld => ?_)
 clear hK K
 refine pu_ HT_ 12 (some 7) #[true, true, true, true, true, true, true, true, true, true, true, true, true] ?_
 refine done_ (done_of HT_.out (by kernel_rfl)) ?_
 try go_wp2
 refine bodyPost_ret (results_ct rfl _ _ gb402 28 #[.int .i64 t404, .int .i64 t405, .int .i64 t406] (0, 0) _ rfl (by (with_reducible repeat first | apply blk_drewN | apply blk_drew | apply blk_alloc); refine blk_put (cs := #[.int .i64 t404, .int .i64 t405, .int .i64 0]) ?_ 2 _ rfl; (with_reducible repeat first | apply blk_drewN | apply blk_drew | apply blk_alloc); refine blk_put (cs := #[.int .i64 t404, .int .i64 0, .int .i64 0]) ?_ 1 _ rfl; (with_reducible repeat first | apply blk_drewN | apply blk_drew | apply blk_alloc); refine blk_put (cs := #[.int .i64 0, .int .i64 0, .int .i64 0]) ?_ 0 _ rfl; (with_reducible repeat first | apply blk_drewN | apply blk_drew | apply blk_alloc); exact BK402.out) Try.underlying28 rfl (by kernel_rfl)) rfl ?_
 exact ⟨by first | rfl | (simp [errW_none, errW_some] <;> rfl) | (simp [*, errW_none, errW_some] <;> rfl), by repeat (first | (with_reducible first | exact HB.out | apply below_alloc | apply pw_below_drewN | apply below_drew1 | refine below_set ?_ GE401.out | refine below_set ?_ GE402.out) | exact HB.out)⟩
end Go.Proofs.Ytojpcbbmbnmchaa.QC
