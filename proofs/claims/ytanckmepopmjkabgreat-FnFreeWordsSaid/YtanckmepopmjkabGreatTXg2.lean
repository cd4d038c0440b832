/- The functions' contracts, by the evaluator. No condition. -/
import Derived.Test.YtanckmepopmjkabGreatTXg1
set_option linter.unusedVariables false
set_option linter.unusedSimpArgs false
set_option maxRecDepth 100000
set_option maxHeartbeats 4000000
namespace Go.Proofs.YtanckmepopmjkabGreat.QW
open Go.RowKit Go.Proofs.YtanckmepopmjkabGreatW.PrintWords Go.Proofs.YtanckmepopmjkabGreatW.PrintLast Go.Proofs.YtanckmepopmjkabGreatW.PrintMore Go.Tx
theorem spec_l09Movers.sem {k : Nat} {s0_0 : List Int} {s0_1 : Int} {s0_2 : Int} {r1 : Int} {r2 : List (S47)} {r3 : List (S32)} {r4 : Int} {r5 : Int} (H : spec_l09Movers.f k s0_0 s0_1 s0_2 = some (r1, r2, r3, r4, r5)) :
    CSem Tryz.prog Vs 27 [.ref 94 [.row .kept (.int .u8) s0_0, ii s0_1, ik .u64 s0_2]] [.lf (ii r1), .own 47 (.nam 1) r2, .lf (.row .made (.nam 3) r3)] [[.row .kept (.int .u8) s0_0, ii r4, ik .u64 r5]] := by
  have c0_ := @spec_l01Next.sem
  have c1_ := @spec_l01Pick.sem
  have c2_ := @spec_l09Paired.sem
  have c3_ := @spec_l04Draw.sem
  have c4_ := @spec_l09Side.sem
  refine fs_ Tryz.f27 ?_
  intro G go sub seal_
  have q0_ := fun k s => seal_ k s 11
  have hs : ∀ kk : Nat, (∀ (x5 x6 x7 x1001 x1002 : Int) (H : spec_l09Movers.j0 kk x5 x6 x7 s0_0 x1001 x1002 = some (r1, r2, r3, r4, r5)), G (contAt Tryz.f27 [1, 1, 1, 0, 1]) (hdSt [(0, ap 0), (5, ai x5), (6, ai x6), (7, ai x7), (17, ap 0)] [(0, 94, [.row .kept (.int .u8) s0_0, ii x1001, ik .u64 x1002])])) ∧ (∀ (x5 x6 x7 x8 x9 : Int) (x10 : List (S47)) (x11 : List (S32)) (x12 x1001 x1002 : Int) (H : spec_l09Movers.l0 kk x5 x6 x7 x8 x9 x10 x11 x12 s0_0 x1001 x1002 = some (r1, r2, r3, r4, r5)), G (loopAt Tryz.f27 [1, 1, 1, 1, 1, 1, 0, 1, 0]) (hdSt [(0, ap 0), (5, ai x5), (6, ai x6), (7, ai x7), (8, ai x8), (9, ai x9), (10, .own 10 47 (.nam 1) x10), (11, .own 11 32 (.nam 3) x11), (12, ai x12), (17, ap 0), (26, ap 0), (32, ap 0)] [(0, 94, [.row .kept (.int .u8) s0_0, ii x1001, ik .u64 x1002])])) := by
    intro kk
    induction kk with
    | zero => refine ⟨?_, ?_⟩ <;> (intros; rename_i H; cases H)
    | succ kk ih =>
    obtain ⟨i0, i1⟩ := ih
    refine ⟨?_, ?_⟩
    · intros; rename_i H; simp only [spec_l09Movers.j0] at H; refine go _ _ ?_; exact run_
    · intros; rename_i H; simp only [spec_l09Movers.l0] at H; refine go _ _ ?_; exact run_
  have i0 := fun kk => (hs kk).1
  have i1 := fun kk => (hs kk).2
  simp only [spec_l09Movers.f] at H; refine go _ _ ?_; exact run_
theorem spec_l09Words.sem {k : Nat} {s0_0 : List Int} {s0_1 : Int} {s0_2 : Int} {a1 : Int} {r1 : List Int} {r2 : Int} {r3 : Int} (H : spec_l09Words.f k s0_0 s0_1 s0_2 a1 = some (r1, r2, r3)) :
    CSem Tryz.prog Vs 28 [.ref 94 [.row .kept (.int .u8) s0_0, ii s0_1, ik .u64 s0_2], .lf (ii a1)] [.own 2 (.int .i64) r1] [[.row .kept (.int .u8) s0_0, ii r2, ik .u64 r3]] := by
  have c0_ := @spec_l01Next.sem
  have c1_ := @spec_l01Pick.sem
  refine fs_ Tryz.f28 ?_
  intro G go sub seal_
  have hs : ∀ kk : Nat, (∀ (x1 : Int) (x5 : List Int) (x6 x1001 x1002 : Int) (H : spec_l09Words.l0 kk x1 x5 x6 s0_0 x1001 x1002 = some (r1, r2, r3)), G (loopAt Tryz.f28 [1, 1, 0, 1, 0]) (hdSt [(0, ap 0), (1, ai x1), (4, .av (.f .nil)), (5, .own 5 2 (.int .i64) x5), (6, ai x6), (10, ap 0), (11, ap 0)] [(0, 94, [.row .kept (.int .u8) s0_0, ii x1001, ik .u64 x1002])])) := by
    intro kk
    induction kk with
    | zero => (intros; rename_i H; cases H)
    | succ kk ih =>
    have i0 := ih
    intros; rename_i H; simp only [spec_l09Words.l0] at H; refine go _ _ ?_; exact run_
  have i0 := fun kk => (hs kk)
  simp only [spec_l09Words.f] at H; refine go _ _ ?_; exact run_
theorem spec_DrawSideOfWord.sem {k : Nat} {l0 : List Int} {r1 : Int} {r2 : List (S47)} {r3 : List (S32)} {r4 : List Int} (H : spec_DrawSideOfWord.f k l0 = some (r1, r2, r3, r4)) :
    CSem Tryz.prog Vs 5 [.lf (.row .kept (.int .u8) l0)] [.lf (ii r1), .own 47 (.nam 1) r2, .lf (.row .made (.nam 3) r3), .own 2 (.int .i64) r4] [] := by
  have k0_ := @spec_l01From.sem
  have c0_ := @spec_l09Movers.sem
  have c1_ := @spec_l09Words.sem
  refine fs_ Tryz.f5 ?_
  intro G go sub seal_
  simp only [spec_DrawSideOfWord.f] at H; refine go _ _ ?_; exact run_
theorem impl_power.sem {k : Nat} {a0 : Int} {a1 : Int} {r : Int} (H : impl_power.f k a0 a1 = some r) :
    CSem Tryz.prog Vs 61 [.lf (ii a0), .lf (ii a1)] [.lf (ii r)] [] := by
  refine fs_ Tryz.f61 ?_
  intro G go sub seal_
  have hs : ∀ kk : Nat, (∀ (x0 x5 x6 x7 : Int) (H : impl_power.l0 kk x0 x5 x6 x7 = some r), G (loopAt Tryz.f61 [1, 1, 0, 1, 0]) (hdSt [(0, ai x0), (5, ai x5), (6, ai x6), (7, ai x7)] [])) := by
    intro kk
    induction kk with
    | zero => (intros; rename_i H; cases H)
    | succ kk ih =>
    have i0 := ih
    intros; rename_i H; simp only [impl_power.l0] at H; refine go _ _ ?_; exact run_
  have i0 := fun kk => (hs kk)
  simp only [impl_power.f] at H; refine go _ _ ?_; exact run_
theorem impl_isPrime.sem {a0 : Int} {r : Bool} (H : impl_isPrime.f a0 = some r) :
    CSem Tryz.prog Vs 82 [.lf (ii a0)] [.lf (.bool r)] [] := by
  refine fs_ Tryz.f82 ?_
  intro G go sub seal_
  simp only [impl_isPrime.f] at H; refine go _ _ ?_; exact run_
theorem impl_isLevel.sem {a0 : Int} {r : Bool} (H : impl_isLevel.f a0 = some r) :
    CSem Tryz.prog Vs 98 [.lf (ii a0)] [.lf (.bool r)] [] := by
  refine fs_ Tryz.f98 ?_
  intro G go sub seal_
  simp only [impl_isLevel.f] at H; refine go _ _ ?_; exact run_
theorem impl_IsBall.sem {k : Nat} {a0 : Int} {a1_0 : Int} {a1_1 : Int} {a1_2 : Int} {r : Bool} (H : impl_IsBall.f k a0 a1_0 a1_1 a1_2 = some r) :
    CSem Tryz.prog Vs 81 [.lf (ii a0), .agg [ii a1_0, ii a1_1, ii a1_2]] [.lf (.bool r)] [] := by
  have c0_ := @impl_power.sem
  have c1_ := @impl_isPrime.sem
  have c2_ := @impl_isLevel.sem
  refine fs_ Tryz.f81 ?_
  intro G go sub seal_
  have hs : ∀ kk : Nat, (∀ (x0 : Int) (x24 : Bool) (x404000 x404001 x404002 : Int) (H : impl_IsBall.j0 kk x0 x24 x404000 x404001 x404002 = some r), G (contAt Tryz.f81 [1, 0, 0]) (hdSt [(0, ai x0), (3, ap 3), (24, al (.bool x24))] [(3, 30, [ii x404000, ii x404001, ii x404002])])) := by
    intro kk
    induction kk with
    | zero => (intros; rename_i H; cases H)
    | succ kk ih =>
    have i0 := ih
    intros; rename_i H; simp only [impl_IsBall.j0] at H; refine go _ _ ?_; exact run_
  have i0 := fun kk => (hs kk)
  simp only [impl_IsBall.f] at H; refine go _ _ ?_; exact run_
theorem impl_areSides.sem {k : Nat} {a0 : Int} {l1 : List (S32)} {r : Bool} (H : impl_areSides.f k a0 l1 = some r) :
    CSem Tryz.prog Vs 42 [.lf (ii a0), .lf (.row .lent (.nam 3) l1)] [.lf (.bool r)] [] := by
  have c0_ := @impl_IsBall.sem
  have c1_ := @impl_isPrime.sem
  refine fs_ Tryz.f42 ?_
  intro G go sub seal_
  have hs : ∀ kk : Nat, (∀ (x0 : Int) (x7 : List (S32)) (x8 x9 : Int) (H : impl_areSides.l0 kk x0 x7 x8 x9 = some r), G (loopAt Tryz.f42 [1, 0, 1, 0]) (hdSt [(0, ai x0), (7, al (.row .lent (.nam 3) x7)), (8, ai x8), (9, ai x9)] [])) := by
    intro kk
    induction kk with
    | zero => (intros; rename_i H; cases H)
    | succ kk ih =>
    have i0 := ih
    intros; rename_i H; simp only [impl_areSides.l0] at H; refine go _ _ ?_; exact run_
  have i0 := fun kk => (hs kk)
  simp only [impl_areSides.f] at H; refine go _ _ ?_; exact run_
theorem impl_within.sem {k : Nat} {a0 : Int} {l1 : List Int} {r : Bool} (H : impl_within.f k a0 l1 = some r) :
    CSem Tryz.prog Vs 71 [.lf (ii a0), .lf (.row .lent (.int .i64) l1)] [.lf (.bool r)] [] := by
  refine fs_ Tryz.f71 ?_
  intro G go sub seal_
  have hs : ∀ kk : Nat, (∀ (x0 : Int) (x7 : List Int) (x8 x9 : Int) (H : impl_within.l0 kk x0 x7 x8 x9 = some r), G (loopAt Tryz.f71 [1, 0, 1, 0]) (hdSt [(0, ai x0), (7, al (.row .lent (.int .i64) x7)), (8, ai x8), (9, ai x9)] [])) := by
    intro kk
    induction kk with
    | zero => (intros; rename_i H; cases H)
    | succ kk ih =>
    have i0 := ih
    intros; rename_i H; simp only [impl_within.l0] at H; refine go _ _ ?_; exact run_
  have i0 := fun kk => (hs kk)
  simp only [impl_within.f] at H; refine go _ _ ?_; exact run_
theorem impl_determinant.sem {a0_0 : Int} {a0_1 : Int} {a0_2 : Int} {a0_3 : Int} {r : Int} (H : impl_determinant.f a0_0 a0_1 a0_2 a0_3 = some r) :
    CSem Tryz.prog Vs 74 [.agg [ii a0_0, ii a0_1, ii a0_2, ii a0_3]] [.lf (ii r)] [] := by
  refine fs_ Tryz.f74 ?_
  intro G go sub seal_
  simp only [impl_determinant.f] at H; refine go _ _ ?_; exact run_
theorem impl_IsMatrix.sem {k : Nat} {a0_0 : Int} {a0_1 : Int} {a0_2 : Int} {a0_3 : Int} {r : Bool} (H : impl_IsMatrix.f k a0_0 a0_1 a0_2 a0_3 = some r) :
    CSem Tryz.prog Vs 57 [.agg [ii a0_0, ii a0_1, ii a0_2, ii a0_3]] [.lf (.bool r)] [] := by
  have c0_ := @impl_within.sem
  have c1_ := @impl_determinant.sem
  refine fs_ Tryz.f57 ?_
  intro G go sub seal_
  simp only [impl_IsMatrix.f] at H; refine go _ _ ?_; exact run_
end Go.Proofs.YtanckmepopmjkabGreat.QW
