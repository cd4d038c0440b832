/- The functions' contracts, by the evaluator. No condition. -/
import Derived.Test.YtghebmhlbhmgeaaTXg4
set_option linter.unusedVariables false
set_option linter.unusedSimpArgs false
set_option maxRecDepth 100000
set_option maxHeartbeats 4000000
namespace Go.Proofs.Ytghebmhlbhmgeaa.QS
open Go.RowKit Go.Proofs.YtghebmhlbhmgeaaW.PrintWords Go.Proofs.YtghebmhlbhmgeaaW.PrintLast Go.Proofs.YtghebmhlbhmgeaaW.PrintMore Go.Tx
theorem spec_l01Two.sem {k : Nat} {l0 : List Int} {r1 : Int} {r2 : Int} {r3 : Int} {r4 : Int} {r5 : Int} {r6 : Int} {r7 : Int} (H : spec_l01Two.f k l0 = some (r1, r2, r3, r4, r5, r6, r7)) :
    CSem Try.prog Vs 34 [.lf (.row .kept (.int .u8) l0)] [.lf (ii r1), .agg [ii r2, ii r3, ii r4], .agg [ii r5, ii r6, ii r7]] [] := by
  have k0_ := @spec_l01From.sem
  have c0_ := @spec_l01Next.sem
  have c1_ := @spec_l01Bad.sem
  have c2_ := @spec_l01Draw.sem
  have c3_ := @spec_l01Prime.sem
  have c4_ := @spec_l01Is.sem
  have c5_ := @spec_l01Spoil.sem
  have c6_ := @spec_l01Parent.sem
  refine fs_ Try.f34 ?_
  intro G go sub
  have hs : ∀ kk : Nat, (∀ (x6 x8 x492000 x492001 x492002 x493000 x493001 x493002 : Int) (x497000 : List Int) (x497001 x497002 x504000 x504001 x504002 : Int) (H : spec_l01Two.j0 kk x6 x8 x497000 x497001 x497002 x504000 x504001 x504002 = some (r1, r2, r3, r4, r5, r6, r7)), G (contAt Try.f34 [1, 1, 1, 1, 0, 1]) (hdSt [(3, ap 3), (4, ap 4), (5, ap 1136), (6, ai x6), (7, ap 7), (8, ai x8), (14, ap 1136), (16, ap 1136)] [(3, 28, [ii x492000, ii x492001, ii x492002]), (4, 28, [ii x493000, ii x493001, ii x493002]), (1136, 85, [.row .kept (.int .u8) x497000, ii x497001, ik .u64 x497002]), (7, 28, [ii x504000, ii x504001, ii x504002])])) ∧ (∀ (x6 x8 : Int) (x36 : Bool) (x492000 x492001 x492002 x493000 x493001 x493002 : Int) (x497000 : List Int) (x497001 x497002 x504000 x504001 x504002 x516000 x516001 x516002 : Int) (H : spec_l01Two.j1 kk x6 x8 x36 x497000 x497001 x497002 x504000 x504001 x504002 x516000 x516001 x516002 = some (r1, r2, r3, r4, r5, r6, r7)), G (contAt Try.f34 [1, 1, 1, 1, 1, 1, 0, 0]) (hdSt [(3, ap 3), (4, ap 4), (5, ap 1136), (6, ai x6), (7, ap 7), (8, ai x8), (9, ap 9), (14, ap 1136), (16, ap 1136), (24, ap 1136), (25, ap 1136), (29, ap 1136), (36, al (.bool x36))] [(3, 28, [ii x492000, ii x492001, ii x492002]), (4, 28, [ii x493000, ii x493001, ii x493002]), (1136, 85, [.row .kept (.int .u8) x497000, ii x497001, ik .u64 x497002]), (7, 28, [ii x504000, ii x504001, ii x504002]), (9, 28, [ii x516000, ii x516001, ii x516002])])) ∧ (∀ (x6 x8 x10 x492000 x492001 x492002 x493000 x493001 x493002 : Int) (x497000 : List Int) (x497001 x497002 x504000 x504001 x504002 x516000 x516001 x516002 : Int) (H : spec_l01Two.l0 kk x6 x8 x10 x504000 x504001 x504002 x516000 x516001 x516002 = some (r1, r2, r3, r4, r5, r6, r7)), G (loopAt Try.f34 [1, 1, 1, 1, 1, 1, 0, 1, 0, 1, 1, 0]) (hdSt [(3, ap 3), (4, ap 4), (5, ap 1136), (6, ai x6), (7, ap 7), (8, ai x8), (9, ap 9), (10, ai x10), (14, ap 1136), (16, ap 1136), (24, ap 1136), (25, ap 1136), (29, ap 1136), (38, ap 1136)] [(3, 28, [ii x492000, ii x492001, ii x492002]), (4, 28, [ii x493000, ii x493001, ii x493002]), (1136, 85, [.row .kept (.int .u8) x497000, ii x497001, ik .u64 x497002]), (7, 28, [ii x504000, ii x504001, ii x504002]), (9, 28, [ii x516000, ii x516001, ii x516002])])) := by
    intro kk
    induction kk with
    | zero => refine ⟨?_, ?_, ?_⟩ <;> (intros; rename_i H; cases H)
    | succ kk ih =>
    obtain ⟨i0, i1, i2⟩ := ih
    refine ⟨?_, ?_, ?_⟩
    · intros; rename_i H; simp only [spec_l01Two.j0] at H; refine go _ _ ?_; exact run_
    · intros; rename_i H; simp only [spec_l01Two.j1] at H; refine go _ _ ?_; exact run_
    · intros; rename_i H; simp only [spec_l01Two.l0] at H; refine go _ _ ?_; exact run_
  have i0 := fun kk => (hs kk).1
  have i1 := fun kk => (hs kk).2.1
  have i2 := fun kk => (hs kk).2.2
  simp only [spec_l01Two.f] at H; refine go _ _ ?_; exact run_
theorem spec_DrawPairedMover.sem {k : Nat} {l0 : List Int} {r1 : Int} {r2 : Int} {r3 : Int} {r4 : Int} {r5 : Int} {r6 : Int} {r7 : Int} (H : spec_DrawPairedMover.f k l0 = some (r1, r2, r3, r4, r5, r6, r7)) :
    CSem Try.prog Vs 10 [.lf (.row .kept (.int .u8) l0)] [.lf (ii r1), .agg [ii r2, ii r3, ii r4], .agg [ii r5, ii r6, ii r7]] [] := by
  have k0_ := @spec_l01From.sem
  have c0_ := @spec_l01Pick.sem
  have c1_ := @spec_l01Next.sem
  have k1_ := @spec_l01Two.sem
  have c2_ := @spec_l01Of.sem
  refine fs_ Try.f10 ?_
  intro G go sub
  simp only [spec_DrawPairedMover.f] at H; refine go _ _ ?_; exact run_
theorem impl_areBalls.sem {k : Nat} {a0 : Int} {l1 : List (S28)} {r : Bool} (H : impl_areBalls.f k a0 l1 = some r) :
    CSem Try.prog Vs 36 [.lf (ii a0), .lf (.row .lent (.nam 0) l1)] [.lf (.bool r)] [] := by
  have c0_ := @impl_IsBall.sem
  have c1_ := @impl_isPrime.sem
  refine fs_ Try.f36 ?_
  intro G go sub
  have hs : ∀ kk : Nat, (∀ (x0 : Int) (x7 : List (S28)) (x8 x9 : Int) (H : impl_areBalls.l0 kk x0 x7 x8 x9 = some r), G (loopAt Try.f36 [1, 0, 1, 0]) (hdSt [(0, ai x0), (7, al (.row .lent (.nam 0) x7)), (8, ai x8), (9, ai x9)] [])) := by
    intro kk
    induction kk with
    | zero => (intros; rename_i H; cases H)
    | succ kk ih =>
    have i0 := ih
    intros; rename_i H; simp only [impl_areBalls.l0] at H; refine go _ _ ?_; exact run_
  have i0 := fun kk => (hs kk)
  simp only [impl_areBalls.f] at H; refine go _ _ ?_; exact run_
theorem impl_holds.sem {k : Nat} {a0 : Int} {a1_0 : Int} {a1_1 : Int} {a1_2 : Int} {a2_0 : Int} {a2_1 : Int} {a2_2 : Int} {r : Bool} (H : impl_holds.f k a0 a1_0 a1_1 a1_2 a2_0 a2_1 a2_2 = some r) :
    CSem Try.prog Vs 72 [.lf (ii a0), .agg [ii a1_0, ii a1_1, ii a1_2], .agg [ii a2_0, ii a2_1, ii a2_2]] [.lf (.bool r)] [] := by
  have c0_ := @impl_power.sem
  have c1_ := @impl_mark.sem
  refine fs_ Try.f72 ?_
  intro G go sub
  simp only [impl_holds.f] at H; refine go _ _ ?_; exact run_
theorem impl_apart.sem {k : Nat} {a0 : Int} {a1_0 : Int} {a1_1 : Int} {a1_2 : Int} {a2_0 : Int} {a2_1 : Int} {a2_2 : Int} {r : Bool} (H : impl_apart.f k a0 a1_0 a1_1 a1_2 a2_0 a2_1 a2_2 = some r) :
    CSem Try.prog Vs 37 [.lf (ii a0), .agg [ii a1_0, ii a1_1, ii a1_2], .agg [ii a2_0, ii a2_1, ii a2_2]] [.lf (.bool r)] [] := by
  have c0_ := @impl_holds.sem
  refine fs_ Try.f37 ?_
  intro G go sub
  simp only [impl_apart.f] at H; refine go _ _ ?_; exact run_
theorem impl_fittedMatrix.sem {a0_0 : Int} {a0_1 : Int} {a0_2 : Int} {a0_3 : Int} {a1 : Bool} {r1 : Int} {r2 : Int} {r3 : Int} {r4 : Int} {r5 : Int} (H : impl_fittedMatrix.f a0_0 a0_1 a0_2 a0_3 a1 = some (r1, r2, r3, r4, r5)) :
    CSem Try.prog Vs 40 [.agg [ii a0_0, ii a0_1, ii a0_2, ii a0_3], .lf (.bool a1)] [.agg [ii r1, ii r2, ii r3, ii r4], .lf (ii r5)] [] := by
  refine fs_ Try.f40 ?_
  intro G go sub
  simp only [impl_fittedMatrix.f] at H; refine go _ _ ?_; exact run_
end Go.Proofs.Ytghebmhlbhmgeaa.QS
