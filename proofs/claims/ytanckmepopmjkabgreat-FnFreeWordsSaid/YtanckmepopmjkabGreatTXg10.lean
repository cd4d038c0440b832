/- The functions' contracts, by the evaluator. No condition. -/
import Derived.Test.YtanckmepopmjkabGreatTXg9
set_option linter.unusedVariables false
set_option linter.unusedSimpArgs false
set_option maxRecDepth 100000
set_option maxHeartbeats 4000000
namespace Go.Proofs.YtanckmepopmjkabGreat.QW
open Go.RowKit Go.Proofs.YtanckmepopmjkabGreatW.PrintWords Go.Proofs.YtanckmepopmjkabGreatW.PrintLast Go.Proofs.YtanckmepopmjkabGreatW.PrintMore Go.Tx
theorem impl_isMovers.sem {a0 : Int} {r : Bool} (H : impl_isMovers.f a0 = some r) :
    CSem Tryz.prog Vs 53 [.lf (ii a0)] [.lf (.bool r)] [] := by
  refine fs_ Tryz.f53 ?_
  intro G go sub seal_
  simp only [impl_isMovers.f] at H; refine go _ _ ?_; exact run_
theorem impl_IsShortWord.sem {k : Nat} {a0 : Int} {l1 : List Int} {r1 : Bool} {r2 : Int} (H : impl_IsShortWord.f k a0 l1 = some (r1, r2)) :
    CSem Tryz.prog Vs 13 [.lf (ii a0), .lf (.row .lent (.int .i64) l1)] [.lf (.bool r1), .lf (ii r2)] [] := by
  have c0_ := @impl_isWord.sem
  have c1_ := @impl_isShort.sem
  have c2_ := @impl_isMovers.sem
  refine fs_ Tryz.f13 ?_
  intro G go sub seal_
  simp only [impl_IsShortWord.f] at H; refine go _ _ ?_; exact run_
theorem impl_one.sem  {r1 : Int} {r2 : Int} {r3 : Int} {r4 : Int} (H : impl_one.f  = some (r1, r2, r3, r4)) :
    CSem Tryz.prog Vs 55 [] [.agg [ii r1, ii r2, ii r3, ii r4]] [] := by
  refine fs_ Tryz.f55 ?_
  intro G go sub seal_
  simp only [impl_one.f] at H; refine go _ _ ?_; exact run_
theorem impl_product.sem {k : Nat} {a0_0 : Int} {a0_1 : Int} {a0_2 : Int} {a0_3 : Int} {a1_0 : Int} {a1_1 : Int} {a1_2 : Int} {a1_3 : Int} {r1 : Int} {r2 : Int} {r3 : Int} {r4 : Int} {r5 : Bool} (H : impl_product.f k a0_0 a0_1 a0_2 a0_3 a1_0 a1_1 a1_2 a1_3 = some (r1, r2, r3, r4, r5)) :
    CSem Tryz.prog Vs 56 [.agg [ii a0_0, ii a0_1, ii a0_2, ii a0_3], .agg [ii a1_0, ii a1_1, ii a1_2, ii a1_3]] [.agg [ii r1, ii r2, ii r3, ii r4], .lf (.bool r5)] [] := by
  have c0_ := @impl_reduced.sem
  refine fs_ Tryz.f56 ?_
  intro G go sub seal_
  have hs : ∀ kk : Nat, (∀ (x10 x879000 x879001 x879002 x879003 x880000 x880001 x880002 x880003 x881000 x881001 x881002 x881003 x882000 x882001 x882002 x882003 : Int) (H : impl_product.l0 kk x10 x879000 x879001 x879002 x879003 x880000 x880001 x880002 x880003 x882000 x882001 x882002 x882003 = some (r1, r2, r3, r4, r5)), G (loopAt Tryz.f56 [1, 1, 0, 1, 0]) (hdSt [(2, ap 2), (3, ap 3), (4, ap 4), (6, ap 6), (10, ai x10)] [(2, 47, [ii x879000, ii x879001, ii x879002, ii x879003]), (3, 47, [ii x880000, ii x880001, ii x880002, ii x880003]), (4, 47, [ii x881000, ii x881001, ii x881002, ii x881003]), (6, 47, [ii x882000, ii x882001, ii x882002, ii x882003])])) ∧ (∀ (x7 x10 x13 x879000 x879001 x879002 x879003 x880000 x880001 x880002 x880003 x881000 x881001 x881002 x881003 x882000 x882001 x882002 x882003 : Int) (H : impl_product.l1 kk x7 x10 x13 x879000 x879001 x879002 x879003 x880000 x880001 x880002 x880003 x882000 x882001 x882002 x882003 = some (r1, r2, r3, r4, r5)), G (loopAt Tryz.f56 [1, 1, 0, 1, 0, 0, 1, 1, 0, 0, 1, 1, 0]) (hdSt [(2, ap 2), (3, ap 3), (4, ap 4), (6, ap 6), (7, ai x7), (10, ai x10), (13, ai x13)] [(2, 47, [ii x879000, ii x879001, ii x879002, ii x879003]), (3, 47, [ii x880000, ii x880001, ii x880002, ii x880003]), (4, 47, [ii x881000, ii x881001, ii x881002, ii x881003]), (6, 47, [ii x882000, ii x882001, ii x882002, ii x882003])])) := by
    intro kk
    induction kk with
    | zero => refine ⟨?_, ?_⟩ <;> (intros; rename_i H; cases H)
    | succ kk ih =>
    obtain ⟨i0, i1⟩ := ih
    refine ⟨?_, ?_⟩
    · intros; rename_i H; simp only [impl_product.l0] at H; refine go _ _ ?_; exact run_
    · intros; rename_i H; simp only [impl_product.l1] at H; refine go _ _ ?_; exact run_
  have i0 := fun kk => (hs kk).1
  have i1 := fun kk => (hs kk).2
  simp only [impl_product.f] at H; refine go _ _ ?_; exact run_
theorem impl_WordMatrix.sem {k : Nat} {l0 : List (S47)} {l1 : List Int} {r1 : Int} {r2 : Int} {r3 : Int} {r4 : Int} {r5 : Int} (H : impl_WordMatrix.f k l0 l1 = some (r1, r2, r3, r4, r5)) :
    CSem Tryz.prog Vs 14 [.lf (.row .lent (.nam 1) l0), .lf (.row .lent (.int .i64) l1)] [.agg [ii r1, ii r2, ii r3, ii r4], .lf (ii r5)] [] := by
  have c0_ := @impl_isWord.sem
  have c1_ := @impl_letterMatrix.sem
  have c2_ := @impl_isMovers.sem
  have c3_ := @impl_areMatrices.sem
  have c4_ := @impl_one.sem
  have c5_ := @impl_product.sem
  refine fs_ Tryz.f14 ?_
  intro G go sub seal_
  have hs : ∀ kk : Nat, (∀ (x0 : List (S47)) (x30 : List Int) (x31 x32 x888000 x888001 x888002 x888003 x896000 x896001 x896002 x896003 : Int) (H : impl_WordMatrix.l0 kk x0 x30 x31 x32 x896000 x896001 x896002 x896003 = some (r1, r2, r3, r4, r5)), G (loopAt Tryz.f14 [1, 1, 1, 0, 1, 0]) (hdSt [(0, al (.row .lent (.nam 1) x0)), (4, ap 4), (6, ap 6), (30, al (.row .lent (.int .i64) x30)), (31, ai x31), (32, ai x32)] [(4, 47, [ii x888000, ii x888001, ii x888002, ii x888003]), (6, 47, [ii x896000, ii x896001, ii x896002, ii x896003])])) := by
    intro kk
    induction kk with
    | zero => (intros; rename_i H; cases H)
    | succ kk ih =>
    have i0 := ih
    intros; rename_i H; simp only [impl_WordMatrix.l0] at H; refine go _ _ ?_; exact run_
  have i0 := fun kk => (hs kk)
  simp only [impl_WordMatrix.f] at H; refine go _ _ ?_; exact run_
theorem impl_fittedEnd.sem {a0_0 : Int} {a0_1 : Int} {a1 : Bool} {r1 : Int} {r2 : Int} {r3 : Int} (H : impl_fittedEnd.f a0_0 a0_1 a1 = some (r1, r2, r3)) :
    CSem Tryz.prog Vs 58 [.agg [ii a0_0, ii a0_1], .lf (.bool a1)] [.agg [ii r1, ii r2], .lf (ii r3)] [] := by
  refine fs_ Tryz.f58 ?_
  intro G go sub seal_
  simp only [impl_fittedEnd.f] at H; refine go _ _ ?_; exact run_
theorem impl_MoveEnd.sem {k : Nat} {a0_0 : Int} {a0_1 : Int} {a0_2 : Int} {a0_3 : Int} {a1_0 : Int} {a1_1 : Int} {r1 : Int} {r2 : Int} {r3 : Int} (H : impl_MoveEnd.f k a0_0 a0_1 a0_2 a0_3 a1_0 a1_1 = some (r1, r2, r3)) :
    CSem Tryz.prog Vs 15 [.agg [ii a0_0, ii a0_1, ii a0_2, ii a0_3], .agg [ii a1_0, ii a1_1]] [.agg [ii r1, ii r2], .lf (ii r3)] [] := by
  have c0_ := @impl_IsEnd.sem
  have c1_ := @impl_moveEnd.sem
  have c2_ := @impl_IsMatrix.sem
  have c3_ := @impl_fittedEnd.sem
  refine fs_ Tryz.f15 ?_
  intro G go sub seal_
  have hs : ∀ kk : Nat, (∀ (x13 : Bool) (x910000 x910001 x910002 x910003 x911000 x911001 x912000 x912001 : Int) (H : impl_MoveEnd.j0 kk x13 x910000 x910001 x910002 x910003 x911000 x911001 = some (r1, r2, r3)), G (contAt Tryz.f15 [1, 0, 0]) (hdSt [(2, ap 2), (3, ap 3), (4, ap 4), (13, al (.bool x13))] [(2, 47, [ii x910000, ii x910001, ii x910002, ii x910003]), (3, 38, [ii x911000, ii x911001]), (4, 38, [ii x912000, ii x912001])])) := by
    intro kk
    induction kk with
    | zero => (intros; rename_i H; cases H)
    | succ kk ih =>
    have i0 := ih
    intros; rename_i H; simp only [impl_MoveEnd.j0] at H; refine go _ _ ?_; exact run_
  have i0 := fun kk => (hs kk)
  simp only [impl_MoveEnd.f] at H; refine go _ _ ?_; exact run_
theorem spec_DrawIsFree.sem {k : Nat} {l0 : List Int} {r1 : Int} {r2 : List (S47)} {r3 : List (S32)} (H : spec_DrawIsFree.f k l0 = some (r1, r2, r3)) :
    CSem Tryz.prog Vs 16 [.lf (.row .kept (.int .u8) l0)] [.lf (ii r1), .own 47 (.nam 1) r2, .lf (.row .made (.nam 3) r3)] [] := by
  have k0_ := @spec_l01From.sem
  have c0_ := @spec_l09Movers.sem
  refine fs_ Tryz.f16 ?_
  intro G go sub seal_
  simp only [spec_DrawIsFree.f] at H; refine go _ _ ?_; exact run_
theorem impl_IsFree.sem {k : Nat} {a0 : Int} {l1 : List (S47)} {l2 : List (S32)} {r1 : Bool} {r2 : Int} (H : impl_IsFree.f k a0 l1 l2 = some (r1, r2)) :
    CSem Tryz.prog Vs 17 [.lf (ii a0), .lf (.row .lent (.nam 1) l1), .lf (.row .lent (.nam 3) l2)] [.lf (.bool r1), .lf (ii r2)] [] := by
  have c0_ := @impl_freeCode.sem
  refine fs_ Tryz.f17 ?_
  intro G go sub seal_
  simp only [impl_IsFree.f] at H; refine go _ _ ?_; exact run_
theorem spec_IsFree.sem {k : Nat} {a0 : Int} {l1 : List (S47)} {l2 : List (S32)} {r1 : Bool} {r2 : Int} (H : spec_IsFree.f k a0 l1 l2 = some (r1, r2)) :
    CSem Tryz.prog Vs 18 [.lf (ii a0), .lf (.row .lent (.nam 1) l1), .lf (.row .lent (.nam 3) l2)] [.lf (.bool r1), .lf (ii r2)] [] := by
  have c0_ := @spec_l09List.sem
  have c1_ := @spec_l09Free.sem
  refine fs_ Tryz.f18 ?_
  intro G go sub seal_
  simp only [spec_IsFree.f] at H; refine go _ _ ?_; exact run_
theorem spec_l01Near.sem {s0_0 : List Int} {s0_1 : Int} {s0_2 : Int} {a1 : Int} {r1 : Int} {r2 : Int} {r3 : Int} (H : spec_l01Near.f s0_0 s0_1 s0_2 a1 = some (r1, r2, r3)) :
    CSem Tryz.prog Vs 60 [.ref 94 [.row .kept (.int .u8) s0_0, ii s0_1, ik .u64 s0_2], .lf (ii a1)] [.lf (ii r1)] [[.row .kept (.int .u8) s0_0, ii r2, ik .u64 r3]] := by
  have c0_ := @spec_l01Next.sem
  have c1_ := @spec_l01Pick.sem
  refine fs_ Tryz.f60 ?_
  intro G go sub seal_
  simp only [spec_l01Near.f] at H; refine go _ _ ?_; exact run_
theorem spec_DrawCountShortWords.sem {k : Nat} {l0 : List Int} {r1 : Int} {r2 : Int} (H : spec_DrawCountShortWords.f k l0 = some (r1, r2)) :
    CSem Tryz.prog Vs 19 [.lf (.row .kept (.int .u8) l0)] [.lf (ii r1), .lf (ii r2)] [] := by
  have k0_ := @spec_l01From.sem
  have c0_ := @spec_l01Near.sem
  refine fs_ Tryz.f19 ?_
  intro G go sub seal_
  simp only [spec_DrawCountShortWords.f] at H; refine go _ _ ?_; exact run_
end Go.Proofs.YtanckmepopmjkabGreat.QW
