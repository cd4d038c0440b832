/- The functions' contracts, by the evaluator. No condition. -/
import Derived.Test.YtghebmhlbhmgeaaTXg6
set_option linter.unusedVariables false
set_option linter.unusedSimpArgs false
set_option maxRecDepth 100000
set_option maxHeartbeats 4000000
namespace Go.Proofs.Ytghebmhlbhmgeaa.QS
open Go.RowKit Go.Proofs.YtghebmhlbhmgeaaW.PrintWords Go.Proofs.YtghebmhlbhmgeaaW.PrintLast Go.Proofs.YtghebmhlbhmgeaaW.PrintMore Go.Tx
theorem spec_l01Holds.sem {k : Nat} {a0 : Int} {a1_0 : Int} {a1_1 : Int} {a1_2 : Int} {a2_0 : Int} {a2_1 : Int} {a2_2 : Int} {r : Bool} (H : spec_l01Holds.f k a0 a1_0 a1_1 a1_2 a2_0 a2_1 a2_2 = some r) :
    CSem Try.prog Vs 43 [.lf (ii a0), .agg [ii a1_0, ii a1_1, ii a1_2], .agg [ii a2_0, ii a2_1, ii a2_2]] [.lf (.bool r)] [] := by
  have c0_ := @spec_l01Of.sem
  have c1_ := @spec_l01Power.sem
  refine fs_ Try.f43 ?_
  intro G go sub
  simp only [spec_l01Holds.f] at H; refine go _ _ ?_; exact run_
theorem spec_l01Gcd.sem {k : Nat} {a0 : Int} {a1 : Int} {r : Int} (H : spec_l01Gcd.f k a0 a1 = some r) :
    CSem Try.prog Vs 73 [.lf (ii a0), .lf (ii a1)] [.lf (ii r)] [] := by
  refine fs_ Try.f73 ?_
  intro G go sub
  have hs : ∀ kk : Nat, (∀ (x0 x1 : Int) (H : spec_l01Gcd.l0 kk x0 x1 = some r), G (loopAt Try.f73 [1, 0, 0]) (hdSt [(0, ai x0), (1, ai x1)] [])) := by
    intro kk
    induction kk with
    | zero => (intros; rename_i H; cases H)
    | succ kk ih =>
    have i0 := ih
    intros; rename_i H; simp only [spec_l01Gcd.l0] at H; refine go _ _ ?_; exact run_
  have i0 := fun kk => (hs kk)
  simp only [spec_l01Gcd.f] at H; refine go _ _ ?_; exact run_
theorem spec_l09Paired.sem {k : Nat} {a0 : Int} {a1_0 : Int} {a1_1 : Int} {a1_2 : Int} {a2_0 : Int} {a2_1 : Int} {a2_2 : Int} {r1 : Int} {r2 : Int} {r3 : Int} {r4 : Int} {r5 : Bool} (H : spec_l09Paired.f k a0 a1_0 a1_1 a1_2 a2_0 a2_1 a2_2 = some (r1, r2, r3, r4, r5)) :
    CSem Try.prog Vs 44 [.lf (ii a0), .agg [ii a1_0, ii a1_1, ii a1_2], .agg [ii a2_0, ii a2_1, ii a2_2]] [.agg [ii r1, ii r2, ii r3, ii r4], .lf (.bool r5)] [] := by
  have c0_ := @spec_l01In.sem
  have c1_ := @spec_l01Power.sem
  have c2_ := @spec_l01Gcd.sem
  refine fs_ Try.f44 ?_
  intro G go sub
  have hs : ∀ kk : Nat, (∀ (x0 x8 : Int) (x43 : Bool) (x649000 x649001 x649002 x650000 x650001 x650002 x651000 x651001 x651002 x651003 : Int) (H : spec_l09Paired.j0 kk x0 x8 x43 x649000 x649001 x649002 x650000 x650001 x650002 = some (r1, r2, r3, r4, r5)), G (contAt Try.f44 [1, 1, 0, 0]) (hdSt [(0, ai x0), (4, ap 4), (5, ap 5), (6, ap 6), (8, ai x8), (43, al (.bool x43))] [(4, 28, [ii x649000, ii x649001, ii x649002]), (5, 28, [ii x650000, ii x650001, ii x650002]), (6, 26, [ii x651000, ii x651001, ii x651002, ii x651003])])) ∧ (∀ (x14 x15 x651000 x651001 x651002 x651003 x656000 x656001 x656002 x656003 : Int) (H : spec_l09Paired.l0 kk x14 x15 x656000 x656001 x656002 x656003 = some (r1, r2, r3, r4, r5)), G (loopAt Try.f44 [1, 1, 1, 1, 1, 1, 0, 1, 0]) (hdSt [(6, ap 6), (13, ap 13), (14, ai x14), (15, ai x15)] [(6, 26, [ii x651000, ii x651001, ii x651002, ii x651003]), (13, 102, [ii x656000, ii x656001, ii x656002, ii x656003])])) ∧ (∀ (x14 x651000 x651001 x651002 x651003 x656000 x656001 x656002 x656003 : Int) (H : spec_l09Paired.j3 kk x14 x656000 x656001 x656002 x656003 = some (r1, r2, r3, r4, r5)), G (contAt Try.f44 [1, 1, 1, 1, 1, 1, 1, 0, 1]) (hdSt [(6, ap 6), (13, ap 13), (14, ai x14)] [(6, 26, [ii x651000, ii x651001, ii x651002, ii x651003]), (13, 102, [ii x656000, ii x656001, ii x656002, ii x656003])])) ∧ (∀ (x14 x17 x651000 x651001 x651002 x651003 x656000 x656001 x656002 x656003 : Int) (H : spec_l09Paired.l2 kk x14 x17 x656000 x656001 x656002 x656003 = some (r1, r2, r3, r4, r5)), G (loopAt Try.f44 [1, 1, 1, 1, 1, 1, 1, 1, 0, 1, 0]) (hdSt [(6, ap 6), (13, ap 13), (14, ai x14), (17, ai x17)] [(6, 26, [ii x651000, ii x651001, ii x651002, ii x651003]), (13, 102, [ii x656000, ii x656001, ii x656002, ii x656003])])) ∧ (∀ (x14 x16 x651000 x651001 x651002 x651003 x656000 x656001 x656002 x656003 : Int) (H : spec_l09Paired.l1 kk x14 x16 x656000 x656001 x656002 x656003 = some (r1, r2, r3, r4, r5)), G (loopAt Try.f44 [1, 1, 1, 1, 1, 1, 1, 0, 1, 0]) (hdSt [(6, ap 6), (13, ap 13), (14, ai x14), (16, ai x16)] [(6, 26, [ii x651000, ii x651001, ii x651002, ii x651003]), (13, 102, [ii x656000, ii x656001, ii x656002, ii x656003])])) := by
    intro kk
    induction kk with
    | zero => refine ⟨?_, ?_, ?_, ?_, ?_⟩ <;> (intros; rename_i H; cases H)
    | succ kk ih =>
    obtain ⟨i0, i1, i2, i3, i4⟩ := ih
    refine ⟨?_, ?_, ?_, ?_, ?_⟩
    · intros; rename_i H; simp only [spec_l09Paired.j0] at H; refine go _ _ ?_; exact run_
    · intros; rename_i H; simp only [spec_l09Paired.l0] at H; refine go _ _ ?_; exact run_
    · intros; rename_i H; simp only [spec_l09Paired.j3] at H; refine go _ _ ?_; exact run_
    · intros; rename_i H; simp only [spec_l09Paired.l2] at H; refine go _ _ ?_; exact run_
    · intros; rename_i H; simp only [spec_l09Paired.l1] at H; refine go _ _ ?_; exact run_
  have i0 := fun kk => (hs kk).1
  have i1 := fun kk => (hs kk).2.1
  have i2 := fun kk => (hs kk).2.2.1
  have i3 := fun kk => (hs kk).2.2.2.1
  have i4 := fun kk => (hs kk).2.2.2.2
  simp only [spec_l09Paired.f] at H; refine go _ _ ?_; exact run_
theorem spec_PairedMover.sem {k : Nat} {a0 : Int} {a1_0 : Int} {a1_1 : Int} {a1_2 : Int} {a2_0 : Int} {a2_1 : Int} {a2_2 : Int} {r1 : Int} {r2 : Int} {r3 : Int} {r4 : Int} {r5 : Int} (H : spec_PairedMover.f k a0 a1_0 a1_1 a1_2 a2_0 a2_1 a2_2 = some (r1, r2, r3, r4, r5)) :
    CSem Try.prog Vs 12 [.lf (ii a0), .agg [ii a1_0, ii a1_1, ii a1_2], .agg [ii a2_0, ii a2_1, ii a2_2]] [.agg [ii r1, ii r2, ii r3, ii r4], .lf (ii r5)] [] := by
  have c0_ := @spec_l01Code.sem
  have c1_ := @spec_l01Holds.sem
  have c2_ := @spec_l09Paired.sem
  refine fs_ Try.f12 ?_
  intro G go sub
  have hs : ∀ kk : Nat, (∀ (x0 : Int) (x29 : Bool) (x669000 x669001 x669002 x670000 x670001 x670002 x671000 x671001 x671002 x671003 : Int) (H : spec_PairedMover.j0 kk x0 x29 x669000 x669001 x669002 x670000 x670001 x670002 = some (r1, r2, r3, r4, r5)), G (contAt Try.f12 [1, 1, 0, 0]) (hdSt [(0, ai x0), (4, ap 4), (5, ap 5), (6, ap 6), (29, al (.bool x29))] [(4, 28, [ii x669000, ii x669001, ii x669002]), (5, 28, [ii x670000, ii x670001, ii x670002]), (6, 26, [ii x671000, ii x671001, ii x671002, ii x671003])])) := by
    intro kk
    induction kk with
    | zero => (intros; rename_i H; cases H)
    | succ kk ih =>
    have i0 := ih
    intros; rename_i H; simp only [spec_PairedMover.j0] at H; refine go _ _ ?_; exact run_
  have i0 := fun kk => (hs kk)
  simp only [spec_PairedMover.f] at H; refine go _ _ ?_; exact run_
theorem impl_areMatrices.sem {k : Nat} {l0 : List (S26)} {r : Bool} (H : impl_areMatrices.f k l0 = some r) :
    CSem Try.prog Vs 74 [.lf (.row .lent (.nam 3) l0)] [.lf (.bool r)] [] := by
  have c0_ := @impl_IsMatrix.sem
  refine fs_ Try.f74 ?_
  intro G go sub
  have hs : ∀ kk : Nat, (∀ (x5 : List (S26)) (x6 x7 : Int) (H : impl_areMatrices.l0 kk x5 x6 x7 = some r), G (loopAt Try.f74 [1, 0, 1, 0]) (hdSt [(5, al (.row .lent (.nam 3) x5)), (6, ai x6), (7, ai x7)] [])) := by
    intro kk
    induction kk with
    | zero => (intros; rename_i H; cases H)
    | succ kk ih =>
    have i0 := ih
    intros; rename_i H; simp only [impl_areMatrices.l0] at H; refine go _ _ ?_; exact run_
  have i0 := fun kk => (hs kk)
  simp only [impl_areMatrices.f] at H; refine go _ _ ?_; exact run_
theorem impl_apartSides.sem {k : Nat} {a0 : Int} {a1_0 : Int} {a1_1 : Int} {a1_2 : Int} {a1_3 : Bool} {a2_0 : Int} {a2_1 : Int} {a2_2 : Int} {a2_3 : Bool} {r : Bool} (H : impl_apartSides.f k a0 a1_0 a1_1 a1_2 a1_3 a2_0 a2_1 a2_2 a2_3 = some r) :
    CSem Try.prog Vs 49 [.lf (ii a0), .agg [ii a1_0, ii a1_1, ii a1_2, .bool a1_3], .agg [ii a2_0, ii a2_1, ii a2_2, .bool a2_3]] [.lf (.bool r)] [] := by
  have c0_ := @impl_apart.sem
  have c1_ := @impl_holds.sem
  refine fs_ Try.f49 ?_
  intro G go sub
  have hs : ∀ kk : Nat, (∀ (x0 : Int) (x7 : Bool) (x687000 x687001 x687002 : Int) (x687003 : Bool) (x688000 x688001 x688002 : Int) (x688003 : Bool) (H : impl_apartSides.j0 kk x0 x7 x687000 x687001 x687002 x687003 x688000 x688001 x688002 x688003 = some r), G (contAt Try.f49 [1, 0, 0, 0]) (hdSt [(0, ai x0), (4, ap 4), (5, ap 5), (7, al (.bool x7))] [(4, 30, [ii x687000, ii x687001, ii x687002, .bool x687003]), (5, 30, [ii x688000, ii x688001, ii x688002, .bool x688003])])) := by
    intro kk
    induction kk with
    | zero => (intros; rename_i H; cases H)
    | succ kk ih =>
    have i0 := ih
    intros; rename_i H; simp only [impl_apartSides.j0] at H; refine go _ _ ?_; exact run_
  have i0 := fun kk => (hs kk)
  simp only [impl_apartSides.f] at H; refine go _ _ ?_; exact run_
theorem impl_opposite.sem {a0_0 : Int} {a0_1 : Int} {a0_2 : Int} {a0_3 : Bool} {r1 : Int} {r2 : Int} {r3 : Int} {r4 : Bool} (H : impl_opposite.f a0_0 a0_1 a0_2 a0_3 = some (r1, r2, r3, r4)) :
    CSem Try.prog Vs 86 [.agg [ii a0_0, ii a0_1, ii a0_2, .bool a0_3]] [.agg [ii r1, ii r2, ii r3, .bool r4]] [] := by
  refine fs_ Try.f86 ?_
  intro G go sub
  simp only [impl_opposite.f] at H; refine go _ _ ?_; exact run_
end Go.Proofs.Ytghebmhlbhmgeaa.QS
