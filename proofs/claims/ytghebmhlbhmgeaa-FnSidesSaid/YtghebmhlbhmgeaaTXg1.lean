/- The functions' contracts, by the evaluator. No condition. -/
import Derived.Test.YtghebmhlbhmgeaaTXg
set_option linter.unusedVariables false
set_option linter.unusedSimpArgs false
set_option maxRecDepth 100000
set_option maxHeartbeats 4000000
namespace Go.Proofs.Ytghebmhlbhmgeaa.QS
open Go.RowKit Go.Proofs.YtghebmhlbhmgeaaW.PrintWords Go.Proofs.YtghebmhlbhmgeaaW.PrintLast Go.Proofs.YtghebmhlbhmgeaaW.PrintMore Go.Tx
theorem spec_l01InvMod.sem {k : Nat} {a0 : Int} {a1 : Int} {r : Int} (H : spec_l01InvMod.f k a0 a1 = some r) :
    CSem Try.prog Vs 71 [.lf (ii a0), .lf (ii a1)] [.lf (ii r)] [] := by
  refine fs_ Try.f71 ?_
  intro G go sub
  have hs : ∀ kk : Nat, (∀ (x1 x5 x6 x7 x8 : Int) (H : spec_l01InvMod.l0 kk x1 x5 x6 x7 x8 = some r), G (loopAt Try.f71 [1, 1, 0, 0]) (hdSt [(1, ai x1), (5, ai x5), (6, ai x6), (7, ai x7), (8, ai x8)] [])) := by
    intro kk
    induction kk with
    | zero => (intros; rename_i H; cases H)
    | succ kk ih =>
    have i0 := ih
    intros; rename_i H; simp only [spec_l01InvMod.l0] at H; refine go _ _ ?_; exact run_
  have i0 := fun kk => (hs kk)
  simp only [spec_l01InvMod.f] at H; refine go _ _ ?_; exact run_
theorem spec_l01Of.sem {k : Nat} {a0 : Int} {a1 : Int} {a2 : Int} {a3 : Int} {r1 : Int} {r2 : Int} {r3 : Int} {r4 : Bool} (H : spec_l01Of.f k a0 a1 a2 a3 = some (r1, r2, r3, r4)) :
    CSem Try.prog Vs 35 [.lf (ii a0), .lf (ii a1), .lf (ii a2), .lf (ii a3)] [.agg [ii r1, ii r2, ii r3], .lf (.bool r4)] [] := by
  have c0_ := @spec_l01In.sem
  have c1_ := @spec_l01Power.sem
  have c2_ := @spec_l01Val.sem
  have c3_ := @spec_l01MulMod.sem
  have c4_ := @spec_l01InvMod.sem
  refine fs_ Try.f35 ?_
  intro G go sub
  simp only [spec_l01Of.f] at H; refine go _ _ ?_; exact run_
theorem spec_l01Draw.sem {k : Nat} {s0_0 : List Int} {s0_1 : Int} {s0_2 : Int} {a1 : Int} {r1 : Int} {r2 : Int} {r3 : Int} {r4 : Int} {r5 : Int} (H : spec_l01Draw.f k s0_0 s0_1 s0_2 a1 = some (r1, r2, r3, r4, r5)) :
    CSem Try.prog Vs 53 [.ref 85 [.row .kept (.int .u8) s0_0, ii s0_1, ik .u64 s0_2], .lf (ii a1)] [.agg [ii r1, ii r2, ii r3]] [[.row .kept (.int .u8) s0_0, ii r4, ik .u64 r5]] := by
  have c0_ := @spec_l01Pick.sem
  have c1_ := @spec_l01Next.sem
  have c2_ := @spec_l01Of.sem
  have c3_ := @spec_l01Power.sem
  refine fs_ Try.f53 ?_
  intro G go sub
  simp only [spec_l01Draw.f] at H; refine go _ _ ?_; exact run_
theorem spec_l09Side.sem {k : Nat} {s0_0 : List Int} {s0_1 : Int} {s0_2 : Int} {a1 : Int} {r1 : Int} {r2 : Int} {r3 : Int} {r4 : Bool} {r5 : Int} {r6 : Int} (H : spec_l09Side.f k s0_0 s0_1 s0_2 a1 = some (r1, r2, r3, r4, r5, r6)) :
    CSem Try.prog Vs 22 [.ref 85 [.row .kept (.int .u8) s0_0, ii s0_1, ik .u64 s0_2], .lf (ii a1)] [.agg [ii r1, ii r2, ii r3, .bool r4]] [[.row .kept (.int .u8) s0_0, ii r5, ik .u64 r6]] := by
  have c0_ := @spec_l01Next.sem
  have c1_ := @spec_l01Bad.sem
  have c2_ := @spec_l01Draw.sem
  refine fs_ Try.f22 ?_
  intro G go sub
  simp only [spec_l09Side.f] at H; refine go _ _ ?_; exact run_
theorem spec_DrawMoveSide.sem {k : Nat} {l0 : List Int} {r1 : Int} {r2 : Int} {r3 : Int} {r4 : Int} {r5 : Int} {r6 : Int} {r7 : Int} {r8 : Int} {r9 : Bool} (H : spec_DrawMoveSide.f k l0 = some (r1, r2, r3, r4, r5, r6, r7, r8, r9)) :
    CSem Try.prog Vs 5 [.lf (.row .kept (.int .u8) l0)] [.lf (ii r1), .agg [ii r2, ii r3, ii r4, ii r5], .agg [ii r6, ii r7, ii r8, .bool r9]] [] := by
  have k0_ := @spec_l01From.sem
  have c0_ := @spec_l01Pick.sem
  have c1_ := @spec_l04Draw.sem
  have c2_ := @spec_l09Side.sem
  refine fs_ Try.f5 ?_
  intro G go sub
  simp only [spec_DrawMoveSide.f] at H; refine go _ _ ?_; exact run_
theorem impl_power.sem {k : Nat} {a0 : Int} {a1 : Int} {r : Int} (H : impl_power.f k a0 a1 = some r) :
    CSem Try.prog Vs 38 [.lf (ii a0), .lf (ii a1)] [.lf (ii r)] [] := by
  refine fs_ Try.f38 ?_
  intro G go sub
  have hs : ∀ kk : Nat, (∀ (x0 x5 x6 x7 : Int) (H : impl_power.l0 kk x0 x5 x6 x7 = some r), G (loopAt Try.f38 [1, 1, 0, 1, 0]) (hdSt [(0, ai x0), (5, ai x5), (6, ai x6), (7, ai x7)] [])) := by
    intro kk
    induction kk with
    | zero => (intros; rename_i H; cases H)
    | succ kk ih =>
    have i0 := ih
    intros; rename_i H; simp only [impl_power.l0] at H; refine go _ _ ?_; exact run_
  have i0 := fun kk => (hs kk)
  simp only [impl_power.f] at H; refine go _ _ ?_; exact run_
theorem impl_isPrime.sem {a0 : Int} {r : Bool} (H : impl_isPrime.f a0 = some r) :
    CSem Try.prog Vs 55 [.lf (ii a0)] [.lf (.bool r)] [] := by
  refine fs_ Try.f55 ?_
  intro G go sub
  simp only [impl_isPrime.f] at H; refine go _ _ ?_; exact run_
theorem impl_isLevel.sem {a0 : Int} {r : Bool} (H : impl_isLevel.f a0 = some r) :
    CSem Try.prog Vs 79 [.lf (ii a0)] [.lf (.bool r)] [] := by
  refine fs_ Try.f79 ?_
  intro G go sub
  simp only [impl_isLevel.f] at H; refine go _ _ ?_; exact run_
theorem impl_IsBall.sem {k : Nat} {a0 : Int} {a1_0 : Int} {a1_1 : Int} {a1_2 : Int} {r : Bool} (H : impl_IsBall.f k a0 a1_0 a1_1 a1_2 = some r) :
    CSem Try.prog Vs 54 [.lf (ii a0), .agg [ii a1_0, ii a1_1, ii a1_2]] [.lf (.bool r)] [] := by
  have c0_ := @impl_power.sem
  have c1_ := @impl_isPrime.sem
  have c2_ := @impl_isLevel.sem
  refine fs_ Try.f54 ?_
  intro G go sub
  have hs : ∀ kk : Nat, (∀ (x0 : Int) (x24 : Bool) (x271000 x271001 x271002 : Int) (H : impl_IsBall.j0 kk x0 x24 x271000 x271001 x271002 = some r), G (contAt Try.f54 [1, 0, 0]) (hdSt [(0, ai x0), (3, ap 3), (24, al (.bool x24))] [(3, 28, [ii x271000, ii x271001, ii x271002])])) := by
    intro kk
    induction kk with
    | zero => (intros; rename_i H; cases H)
    | succ kk ih =>
    have i0 := ih
    intros; rename_i H; simp only [impl_IsBall.j0] at H; refine go _ _ ?_; exact run_
  have i0 := fun kk => (hs kk)
  simp only [impl_IsBall.f] at H; refine go _ _ ?_; exact run_
theorem impl_areSides.sem {k : Nat} {a0 : Int} {l1 : List (S30)} {r : Bool} (H : impl_areSides.f k a0 l1 = some r) :
    CSem Try.prog Vs 23 [.lf (ii a0), .lf (.row .lent (.nam 1) l1)] [.lf (.bool r)] [] := by
  have c0_ := @impl_IsBall.sem
  have c1_ := @impl_isPrime.sem
  refine fs_ Try.f23 ?_
  intro G go sub
  have hs : ∀ kk : Nat, (∀ (x0 : Int) (x7 : List (S30)) (x8 x9 : Int) (H : impl_areSides.l0 kk x0 x7 x8 x9 = some r), G (loopAt Try.f23 [1, 0, 1, 0]) (hdSt [(0, ai x0), (7, al (.row .lent (.nam 1) x7)), (8, ai x8), (9, ai x9)] [])) := by
    intro kk
    induction kk with
    | zero => (intros; rename_i H; cases H)
    | succ kk ih =>
    have i0 := ih
    intros; rename_i H; simp only [impl_areSides.l0] at H; refine go _ _ ?_; exact run_
  have i0 := fun kk => (hs kk)
  simp only [impl_areSides.f] at H; refine go _ _ ?_; exact run_
theorem impl_within.sem {k : Nat} {a0 : Int} {l1 : List Int} {r : Bool} (H : impl_within.f k a0 l1 = some r) :
    CSem Try.prog Vs 39 [.lf (ii a0), .lf (.row .lent (.int .i64) l1)] [.lf (.bool r)] [] := by
  refine fs_ Try.f39 ?_
  intro G go sub
  have hs : ∀ kk : Nat, (∀ (x0 : Int) (x7 : List Int) (x8 x9 : Int) (H : impl_within.l0 kk x0 x7 x8 x9 = some r), G (loopAt Try.f39 [1, 0, 1, 0]) (hdSt [(0, ai x0), (7, al (.row .lent (.int .i64) x7)), (8, ai x8), (9, ai x9)] [])) := by
    intro kk
    induction kk with
    | zero => (intros; rename_i H; cases H)
    | succ kk ih =>
    have i0 := ih
    intros; rename_i H; simp only [impl_within.l0] at H; refine go _ _ ?_; exact run_
  have i0 := fun kk => (hs kk)
  simp only [impl_within.f] at H; refine go _ _ ?_; exact run_
theorem impl_determinant.sem {a0_0 : Int} {a0_1 : Int} {a0_2 : Int} {a0_3 : Int} {r : Int} (H : impl_determinant.f a0_0 a0_1 a0_2 a0_3 = some r) :
    CSem Try.prog Vs 56 [.agg [ii a0_0, ii a0_1, ii a0_2, ii a0_3]] [.lf (ii r)] [] := by
  refine fs_ Try.f56 ?_
  intro G go sub
  simp only [impl_determinant.f] at H; refine go _ _ ?_; exact run_
theorem impl_IsMatrix.sem {k : Nat} {a0_0 : Int} {a0_1 : Int} {a0_2 : Int} {a0_3 : Int} {r : Bool} (H : impl_IsMatrix.f k a0_0 a0_1 a0_2 a0_3 = some r) :
    CSem Try.prog Vs 24 [.agg [ii a0_0, ii a0_1, ii a0_2, ii a0_3]] [.lf (.bool r)] [] := by
  have c0_ := @impl_within.sem
  have c1_ := @impl_determinant.sem
  refine fs_ Try.f24 ?_
  intro G go sub
  simp only [impl_IsMatrix.f] at H; refine go _ _ ?_; exact run_
theorem impl_mark.sem {k : Nat} {a0 : Int} {a1_0 : Int} {a1_1 : Int} {a1_2 : Int} {r : Int} (H : impl_mark.f k a0 a1_0 a1_1 a1_2 = some r) :
    CSem Try.prog Vs 57 [.lf (ii a0), .agg [ii a1_0, ii a1_1, ii a1_2]] [.lf (ii r)] [] := by
  have c0_ := @impl_power.sem
  refine fs_ Try.f57 ?_
  intro G go sub
  simp only [impl_mark.f] at H; refine go _ _ ?_; exact run_
theorem impl_valuation.sem {k : Nat} {a0 : Int} {a1 : Int} {r : Int} (H : impl_valuation.f k a0 a1 = some r) :
    CSem Try.prog Vs 58 [.lf (ii a0), .lf (ii a1)] [.lf (ii r)] [] := by
  refine fs_ Try.f58 ?_
  intro G go sub
  have hs : ∀ kk : Nat, (∀ (x0 x1 x5 : Int) (H : impl_valuation.l0 kk x0 x1 x5 = some r), G (loopAt Try.f58 [1, 1, 1, 0, 0]) (hdSt [(0, ai x0), (1, ai x1), (5, ai x5)] [])) := by
    intro kk
    induction kk with
    | zero => (intros; rename_i H; cases H)
    | succ kk ih =>
    have i0 := ih
    intros; rename_i H; simp only [impl_valuation.l0] at H; refine go _ _ ?_; exact run_
  have i0 := fun kk => (hs kk)
  simp only [impl_valuation.f] at H; refine go _ _ ?_; exact run_
end Go.Proofs.Ytghebmhlbhmgeaa.QS
