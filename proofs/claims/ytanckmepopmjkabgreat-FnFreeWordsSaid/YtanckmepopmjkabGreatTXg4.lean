/- The functions' contracts, by the evaluator. No condition. -/
import Derived.Test.YtanckmepopmjkabGreatTXg3
set_option linter.unusedVariables false
set_option linter.unusedSimpArgs false
set_option maxRecDepth 100000
set_option maxHeartbeats 4000000
namespace Go.Proofs.YtanckmepopmjkabGreat.QW
open Go.RowKit Go.Proofs.YtanckmepopmjkabGreatW.PrintWords Go.Proofs.YtanckmepopmjkabGreatW.PrintLast Go.Proofs.YtanckmepopmjkabGreatW.PrintMore Go.Tx
theorem impl_ballAt.sem {k : Nat} {a0 : Int} {a1 : Int} {a2 : Int} {a3 : Int} {r1 : Int} {r2 : Int} {r3 : Int} {r4 : Bool} (H : impl_ballAt.f k a0 a1 a2 a3 = some (r1, r2, r3, r4)) :
    CSem Tryz.prog Vs 75 [.lf (ii a0), .lf (ii a1), .lf (ii a2), .lf (ii a3)] [.agg [ii r1, ii r2, ii r3], .lf (.bool r4)] [] := by
  have c0_ := @impl_power.sem
  have c1_ := @impl_valuation.sem
  have c2_ := @impl_isLevel.sem
  have c3_ := @impl_times.sem
  have c4_ := @impl_unit.sem
  have c5_ := @impl_inverse.sem
  have c6_ := @impl_ofMark.sem
  refine fs_ Tryz.f75 ?_
  intro G go sub seal_
  have hs : ∀ kk : Nat, (∀ (x0 x1 x2 x3 x10 : Int) (x24 : Bool) (x443000 x443001 x443002 : Int) (H : impl_ballAt.j0 kk x0 x1 x2 x3 x10 x24 = some (r1, r2, r3, r4)), G (contAt Tryz.f75 [1, 1, 1, 0, 0, 0]) (hdSt [(0, ai x0), (1, ai x1), (2, ai x2), (3, ai x3), (8, ap 8), (10, ai x10), (24, al (.bool x24))] [(8, 30, [ii x443000, ii x443001, ii x443002])])) := by
    intro kk
    induction kk with
    | zero => (intros; rename_i H; cases H)
    | succ kk ih =>
    have i0 := ih
    intros; rename_i H; simp only [impl_ballAt.j0] at H; refine go _ _ ?_; exact run_
  have i0 := fun kk => (hs kk)
  simp only [impl_ballAt.f] at H; refine go _ _ ?_; exact run_
theorem impl_moveSide.sem {k : Nat} {a0 : Int} {a1_0 : Int} {a1_1 : Int} {a1_2 : Int} {a1_3 : Int} {a2_0 : Int} {a2_1 : Int} {a2_2 : Int} {a2_3 : Bool} {r1 : Int} {r2 : Int} {r3 : Int} {r4 : Bool} {r5 : Bool} (H : impl_moveSide.f k a0 a1_0 a1_1 a1_2 a1_3 a2_0 a2_1 a2_2 a2_3 = some (r1, r2, r3, r4, r5)) :
    CSem Tryz.prog Vs 33 [.lf (ii a0), .agg [ii a1_0, ii a1_1, ii a1_2, ii a1_3], .agg [ii a2_0, ii a2_1, ii a2_2, .bool a2_3]] [.agg [ii r1, ii r2, ii r3, .bool r4], .lf (.bool r5)] [] := by
  have c0_ := @impl_power.sem
  have c1_ := @impl_mark.sem
  have c2_ := @impl_valuation.sem
  have c3_ := @impl_determinant.sem
  have c4_ := @impl_ballAt.sem
  refine fs_ Tryz.f33 ?_
  intro G go sub seal_
  have hs : ∀ kk : Nat, (∀ (x0 x10 x11 x12 x13 : Int) (x70 : Bool) (x458000 x458001 x458002 x458003 x459000 x459001 x459002 : Int) (x459003 : Bool) (x460000 x460001 x460002 : Int) (x460003 : Bool) (H : impl_moveSide.j0 kk x0 x10 x11 x12 x13 x70 x458000 x458001 x458002 x458003 x459000 x459001 x459002 x459003 = some (r1, r2, r3, r4, r5)), G (contAt Tryz.f33 [1, 1, 1, 1, 1, 0, 0]) (hdSt [(0, ai x0), (4, ap 4), (5, ap 5), (6, ap 6), (10, ai x10), (11, ai x11), (12, ai x12), (13, ai x13), (70, al (.bool x70))] [(4, 47, [ii x458000, ii x458001, ii x458002, ii x458003]), (5, 32, [ii x459000, ii x459001, ii x459002, .bool x459003]), (6, 32, [ii x460000, ii x460001, ii x460002, .bool x460003])])) := by
    intro kk
    induction kk with
    | zero => (intros; rename_i H; cases H)
    | succ kk ih =>
    have i0 := ih
    intros; rename_i H; simp only [impl_moveSide.j0] at H; refine go _ _ ?_; exact run_
  have i0 := fun kk => (hs kk)
  simp only [impl_moveSide.f] at H; refine go _ _ ?_; exact run_
theorem impl_holds.sem {k : Nat} {a0 : Int} {a1_0 : Int} {a1_1 : Int} {a1_2 : Int} {a2_0 : Int} {a2_1 : Int} {a2_2 : Int} {r : Bool} (H : impl_holds.f k a0 a1_0 a1_1 a1_2 a2_0 a2_1 a2_2 = some r) :
    CSem Tryz.prog Vs 83 [.lf (ii a0), .agg [ii a1_0, ii a1_1, ii a1_2], .agg [ii a2_0, ii a2_1, ii a2_2]] [.lf (.bool r)] [] := by
  have c0_ := @impl_power.sem
  have c1_ := @impl_mark.sem
  refine fs_ Tryz.f83 ?_
  intro G go sub seal_
  simp only [impl_holds.f] at H; refine go _ _ ?_; exact run_
theorem impl_apart.sem {k : Nat} {a0 : Int} {a1_0 : Int} {a1_1 : Int} {a1_2 : Int} {a2_0 : Int} {a2_1 : Int} {a2_2 : Int} {r : Bool} (H : impl_apart.f k a0 a1_0 a1_1 a1_2 a2_0 a2_1 a2_2 = some r) :
    CSem Tryz.prog Vs 84 [.lf (ii a0), .agg [ii a1_0, ii a1_1, ii a1_2], .agg [ii a2_0, ii a2_1, ii a2_2]] [.lf (.bool r)] [] := by
  have c0_ := @impl_holds.sem
  refine fs_ Tryz.f84 ?_
  intro G go sub seal_
  simp only [impl_apart.f] at H; refine go _ _ ?_; exact run_
theorem impl_apartSides.sem {k : Nat} {a0 : Int} {a1_0 : Int} {a1_1 : Int} {a1_2 : Int} {a1_3 : Bool} {a2_0 : Int} {a2_1 : Int} {a2_2 : Int} {a2_3 : Bool} {r : Bool} (H : impl_apartSides.f k a0 a1_0 a1_1 a1_2 a1_3 a2_0 a2_1 a2_2 a2_3 = some r) :
    CSem Tryz.prog Vs 43 [.lf (ii a0), .agg [ii a1_0, ii a1_1, ii a1_2, .bool a1_3], .agg [ii a2_0, ii a2_1, ii a2_2, .bool a2_3]] [.lf (.bool r)] [] := by
  have c0_ := @impl_holds.sem
  have c1_ := @impl_apart.sem
  refine fs_ Tryz.f43 ?_
  intro G go sub seal_
  have hs : ∀ kk : Nat, (∀ (x0 : Int) (x7 : Bool) (x487000 x487001 x487002 : Int) (x487003 : Bool) (x488000 x488001 x488002 : Int) (x488003 : Bool) (H : impl_apartSides.j0 kk x0 x7 x487000 x487001 x487002 x487003 x488000 x488001 x488002 x488003 = some r), G (contAt Tryz.f43 [1, 0, 0, 0]) (hdSt [(0, ai x0), (4, ap 4), (5, ap 5), (7, al (.bool x7))] [(4, 32, [ii x487000, ii x487001, ii x487002, .bool x487003]), (5, 32, [ii x488000, ii x488001, ii x488002, .bool x488003])])) := by
    intro kk
    induction kk with
    | zero => (intros; rename_i H; cases H)
    | succ kk ih =>
    have i0 := ih
    intros; rename_i H; simp only [impl_apartSides.j0] at H; refine go _ _ ?_; exact run_
  have i0 := fun kk => (hs kk)
  simp only [impl_apartSides.f] at H; refine go _ _ ?_; exact run_
theorem impl_opposite.sem {a0_0 : Int} {a0_1 : Int} {a0_2 : Int} {a0_3 : Bool} {r1 : Int} {r2 : Int} {r3 : Int} {r4 : Bool} (H : impl_opposite.f a0_0 a0_1 a0_2 a0_3 = some (r1, r2, r3, r4)) :
    CSem Tryz.prog Vs 97 [.agg [ii a0_0, ii a0_1, ii a0_2, .bool a0_3]] [.agg [ii r1, ii r2, ii r3, .bool r4]] [] := by
  refine fs_ Tryz.f97 ?_
  intro G go sub seal_
  simp only [impl_opposite.f] at H; refine go _ _ ?_; exact run_
theorem impl_isFree.sem {k : Nat} {a0 : Int} {l1 : List (S47)} {l2 : List (S32)} {r1 : Bool} {r2 : Int} (H : impl_isFree.f k a0 l1 l2 = some (r1, r2)) :
    CSem Tryz.prog Vs 70 [.lf (ii a0), .lf (.row .lent (.nam 1) l1), .lf (.row .lent (.nam 3) l2)] [.lf (.bool r1), .lf (ii r2)] [] := by
  have c0_ := @impl_moveSide.sem
  have c1_ := @impl_apartSides.sem
  have c2_ := @impl_opposite.sem
  refine fs_ Tryz.f70 ?_
  intro G go sub seal_
  have hs : ∀ kk : Nat, (∀ (x0 : Int) (x1 : List (S47)) (x2 x16 : List (S32)) (x17 x18 : Int) (H : impl_isFree.l0 kk x0 x1 x2 x16 x17 x18 = some (r1, r2)), G (loopAt Tryz.f70 [1, 0, 1, 0]) (hdSt [(0, ai x0), (1, al (.row .lent (.nam 1) x1)), (2, al (.row .lent (.nam 3) x2)), (16, al (.row .lent (.nam 3) x16)), (17, ai x17), (18, ai x18)] [])) ∧ (∀ (x0 : Int) (x1 : List (S47)) (x2 x16 : List (S32)) (x17 x18 : Int) (x25 : List (S32)) (x26 x27 x495000 x495001 x495002 : Int) (x495003 : Bool) (H : impl_isFree.l1 kk x0 x1 x2 x16 x17 x18 x25 x26 x27 x495000 x495001 x495002 x495003 = some (r1, r2)), G (loopAt Tryz.f70 [1, 0, 1, 0, 0, 1, 1, 0, 0, 1, 1, 0]) (hdSt [(0, ai x0), (1, al (.row .lent (.nam 1) x1)), (2, al (.row .lent (.nam 3) x2)), (9, ap 9), (16, al (.row .lent (.nam 3) x16)), (17, ai x17), (18, ai x18), (25, al (.row .lent (.nam 3) x25)), (26, ai x26), (27, ai x27)] [(9, 32, [ii x495000, ii x495001, ii x495002, .bool x495003])])) ∧ (∀ (x0 : Int) (x2 : List (S32)) (x38 : List (S47)) (x39 x40 : Int) (H : impl_isFree.l2 kk x0 x2 x38 x39 x40 = some (r1, r2)), G (loopAt Tryz.f70 [1, 1, 0, 1, 0]) (hdSt [(0, ai x0), (2, al (.row .lent (.nam 3) x2)), (38, al (.row .lent (.nam 1) x38)), (39, ai x39), (40, ai x40)] [])) := by
    intro kk
    induction kk with
    | zero => refine ⟨?_, ?_, ?_⟩ <;> (intros; rename_i H; cases H)
    | succ kk ih =>
    obtain ⟨i0, i1, i2⟩ := ih
    refine ⟨?_, ?_, ?_⟩
    · intros; rename_i H; simp only [impl_isFree.l0] at H; refine go _ _ ?_; exact run_
    · intros; rename_i H; simp only [impl_isFree.l1] at H; refine go _ _ ?_; exact run_
    · intros; rename_i H; simp only [impl_isFree.l2] at H; refine go _ _ ?_; exact run_
  have i0 := fun kk => (hs kk).1
  have i1 := fun kk => (hs kk).2.1
  have i2 := fun kk => (hs kk).2.2
  simp only [impl_isFree.f] at H; refine go _ _ ?_; exact run_
end Go.Proofs.YtanckmepopmjkabGreat.QW
