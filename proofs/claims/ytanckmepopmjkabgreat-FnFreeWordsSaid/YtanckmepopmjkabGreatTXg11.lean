/- The functions' contracts, by the evaluator. No condition. -/
import Derived.Test.YtanckmepopmjkabGreatTXg10
set_option linter.unusedVariables false
set_option linter.unusedSimpArgs false
set_option maxRecDepth 100000
set_option maxHeartbeats 4000000
namespace Go.Proofs.YtanckmepopmjkabGreat.QW
open Go.RowKit Go.Proofs.YtanckmepopmjkabGreatW.PrintWords Go.Proofs.YtanckmepopmjkabGreatW.PrintLast Go.Proofs.YtanckmepopmjkabGreatW.PrintMore Go.Tx
theorem impl_CountShortWords.sem {k : Nat} {a0 : Int} {a1 : Int} {r1 : Int} {r2 : Int} (H : impl_CountShortWords.f k a0 a1 = some (r1, r2)) :
    CSem Tryz.prog Vs 20 [.lf (ii a0), .lf (ii a1)] [.lf (ii r1), .lf (ii r2)] [] := by
  have c0_ := @impl_isMovers.sem
  have c1_ := @impl_power.sem
  refine fs_ Tryz.f20 ?_
  intro G go sub seal_
  have hs : ∀ kk : Nat, (∀ (x0 x1 : Int) (x6 : Bool) (H : impl_CountShortWords.j0 kk x0 x1 x6 = some (r1, r2)), G (contAt Tryz.f20 [1, 0, 0, 0]) (hdSt [(0, ai x0), (1, ai x1), (6, al (.bool x6))] [])) := by
    intro kk
    induction kk with
    | zero => (intros; rename_i H; cases H)
    | succ kk ih =>
    have i0 := ih
    intros; rename_i H; simp only [impl_CountShortWords.j0] at H; refine go _ _ ?_; exact run_
  have i0 := fun kk => (hs kk)
  simp only [impl_CountShortWords.f] at H; refine go _ _ ?_; exact run_
theorem spec_CountShortWords.sem {k : Nat} {a0 : Int} {a1 : Int} {r1 : Int} {r2 : Int} (H : spec_CountShortWords.f k a0 a1 = some (r1, r2)) :
    CSem Tryz.prog Vs 21 [.lf (ii a0), .lf (ii a1)] [.lf (ii r1), .lf (ii r2)] [] := by
  have c0_ := @spec_l01In.sem
  have c1_ := @spec_l01Power.sem
  refine fs_ Tryz.f21 ?_
  intro G go sub seal_
  have hs : ∀ kk : Nat, (∀ (x0 x1 : Int) (x6 : Bool) (H : spec_CountShortWords.j0 kk x0 x1 x6 = some (r1, r2)), G (contAt Tryz.f21 [1, 0, 0, 0]) (hdSt [(0, ai x0), (1, ai x1), (6, al (.bool x6))] [])) := by
    intro kk
    induction kk with
    | zero => (intros; rename_i H; cases H)
    | succ kk ih =>
    have i0 := ih
    intros; rename_i H; simp only [spec_CountShortWords.j0] at H; refine go _ _ ?_; exact run_
  have i0 := fun kk => (hs kk)
  simp only [spec_CountShortWords.f] at H; refine go _ _ ?_; exact run_
theorem spec_DrawIsShortWord.sem {k : Nat} {l0 : List Int} {r1 : Int} {r2 : List Int} (H : spec_DrawIsShortWord.f k l0 = some (r1, r2)) :
    CSem Tryz.prog Vs 22 [.lf (.row .kept (.int .u8) l0)] [.lf (ii r1), .own 2 (.int .i64) r2] [] := by
  have k0_ := @spec_l01From.sem
  have c0_ := @spec_l09Words.sem
  have c1_ := @spec_l01Near.sem
  refine fs_ Tryz.f22 ?_
  intro G go sub seal_
  simp only [spec_DrawIsShortWord.f] at H; refine go _ _ ?_; exact run_
theorem spec_IsShortWord.sem {k : Nat} {a0 : Int} {l1 : List Int} {r1 : Bool} {r2 : Int} (H : spec_IsShortWord.f k a0 l1 = some (r1, r2)) :
    CSem Tryz.prog Vs 23 [.lf (ii a0), .lf (.row .lent (.int .i64) l1)] [.lf (.bool r1), .lf (ii r2)] [] := by
  have c0_ := @spec_l09Word.sem
  have c1_ := @spec_l09Short.sem
  refine fs_ Tryz.f23 ?_
  intro G go sub seal_
  simp only [spec_IsShortWord.f] at H; refine go _ _ ?_; exact run_
theorem spec_DrawWordMatrix.sem {k : Nat} {l0 : List Int} {r1 : List (S47)} {r2 : List Int} (H : spec_DrawWordMatrix.f k l0 = some (r1, r2)) :
    CSem Tryz.prog Vs 24 [.lf (.row .kept (.int .u8) l0)] [.own 47 (.nam 1) r1, .own 2 (.int .i64) r2] [] := by
  have k0_ := @spec_l01From.sem
  have c0_ := @spec_l09Movers.sem
  have c1_ := @spec_l09Words.sem
  refine fs_ Tryz.f24 ?_
  intro G go sub seal_
  simp only [spec_DrawWordMatrix.f] at H; refine go _ _ ?_; exact run_
theorem spec_l04Times.sem {k : Nat} {a0_0 : Int} {a0_1 : Int} {a0_2 : Int} {a0_3 : Int} {a1_0 : Int} {a1_1 : Int} {a1_2 : Int} {a1_3 : Int} {r1 : Int} {r2 : Int} {r3 : Int} {r4 : Int} {r5 : Bool} (H : spec_l04Times.f k a0_0 a0_1 a0_2 a0_3 a1_0 a1_1 a1_2 a1_3 = some (r1, r2, r3, r4, r5)) :
    CSem Tryz.prog Vs 65 [.agg [ii a0_0, ii a0_1, ii a0_2, ii a0_3], .agg [ii a1_0, ii a1_1, ii a1_2, ii a1_3]] [.agg [ii r1, ii r2, ii r3, ii r4], .lf (.bool r5)] [] := by
  have c0_ := @spec_l04Reduce.sem
  refine fs_ Tryz.f65 ?_
  intro G go sub seal_
  have hs : ∀ kk : Nat, (∀ (x7 x998000 x998001 x998002 x998003 x999000 x999001 x999002 x999003 x1000000 x1000001 x1000002 x1000003 x1001000 x1001001 x1001002 x1001003 : Int) (H : spec_l04Times.l0 kk x7 x998000 x998001 x998002 x998003 x999000 x999001 x999002 x999003 x1001000 x1001001 x1001002 x1001003 = some (r1, r2, r3, r4, r5)), G (loopAt Tryz.f65 [1, 1, 0, 1, 0]) (hdSt [(2, ap 2), (3, ap 3), (4, ap 4), (6, ap 6), (7, ai x7)] [(2, 47, [ii x998000, ii x998001, ii x998002, ii x998003]), (3, 47, [ii x999000, ii x999001, ii x999002, ii x999003]), (4, 47, [ii x1000000, ii x1000001, ii x1000002, ii x1000003]), (6, 47, [ii x1001000, ii x1001001, ii x1001002, ii x1001003])])) ∧ (∀ (x7 x8 x998000 x998001 x998002 x998003 x999000 x999001 x999002 x999003 x1000000 x1000001 x1000002 x1000003 x1001000 x1001001 x1001002 x1001003 : Int) (H : spec_l04Times.l1 kk x7 x8 x998000 x998001 x998002 x998003 x999000 x999001 x999002 x999003 x1001000 x1001001 x1001002 x1001003 = some (r1, r2, r3, r4, r5)), G (loopAt Tryz.f65 [1, 1, 0, 1, 0, 0, 1, 0, 0, 1, 0]) (hdSt [(2, ap 2), (3, ap 3), (4, ap 4), (6, ap 6), (7, ai x7), (8, ai x8)] [(2, 47, [ii x998000, ii x998001, ii x998002, ii x998003]), (3, 47, [ii x999000, ii x999001, ii x999002, ii x999003]), (4, 47, [ii x1000000, ii x1000001, ii x1000002, ii x1000003]), (6, 47, [ii x1001000, ii x1001001, ii x1001002, ii x1001003])])) := by
    intro kk
    induction kk with
    | zero => refine ⟨?_, ?_⟩ <;> (intros; rename_i H; cases H)
    | succ kk ih =>
    obtain ⟨i0, i1⟩ := ih
    refine ⟨?_, ?_⟩
    · intros; rename_i H; simp only [spec_l04Times.l0] at H; refine go _ _ ?_; exact run_
    · intros; rename_i H; simp only [spec_l04Times.l1] at H; refine go _ _ ?_; exact run_
  have i0 := fun kk => (hs kk).1
  have i1 := fun kk => (hs kk).2
  simp only [spec_l04Times.f] at H; refine go _ _ ?_; exact run_
theorem spec_WordMatrix.sem {k : Nat} {l0 : List (S47)} {l1 : List Int} {r1 : Int} {r2 : Int} {r3 : Int} {r4 : Int} {r5 : Int} (H : spec_WordMatrix.f k l0 l1 = some (r1, r2, r3, r4, r5)) :
    CSem Tryz.prog Vs 25 [.lf (.row .lent (.nam 1) l0), .lf (.row .lent (.int .i64) l1)] [.agg [ii r1, ii r2, ii r3, ii r4], .lf (ii r5)] [] := by
  have c0_ := @spec_l09Word.sem
  have c1_ := @spec_l09Letter.sem
  have c2_ := @spec_l04Is.sem
  have c3_ := @spec_l04Times.sem
  refine fs_ Tryz.f25 ?_
  intro G go sub seal_
  have hs : ∀ kk : Nat, (∀ (x0 : List (S47)) (x1 : List Int) (x6 x1008000 x1008001 x1008002 x1008003 : Int) (H : spec_WordMatrix.l0 kk x0 x1 x6 = some (r1, r2, r3, r4, r5)), G (loopAt Tryz.f25 [1, 0, 1, 0]) (hdSt [(0, al (.row .lent (.nam 1) x0)), (1, al (.row .lent (.int .i64) x1)), (4, ap 4), (6, ai x6)] [(4, 47, [ii x1008000, ii x1008001, ii x1008002, ii x1008003])])) ∧ (∀ (x0 : List (S47)) (x1 : List Int) (x8 x1008000 x1008001 x1008002 x1008003 x1012000 x1012001 x1012002 x1012003 : Int) (H : spec_WordMatrix.l1 kk x0 x1 x8 x1012000 x1012001 x1012002 x1012003 = some (r1, r2, r3, r4, r5)), G (loopAt Tryz.f25 [1, 1, 1, 1, 0, 1, 0]) (hdSt [(0, al (.row .lent (.nam 1) x0)), (1, al (.row .lent (.int .i64) x1)), (4, ap 4), (7, ap 7), (8, ai x8)] [(4, 47, [ii x1008000, ii x1008001, ii x1008002, ii x1008003]), (7, 47, [ii x1012000, ii x1012001, ii x1012002, ii x1012003])])) := by
    intro kk
    induction kk with
    | zero => refine ⟨?_, ?_⟩ <;> (intros; rename_i H; cases H)
    | succ kk ih =>
    obtain ⟨i0, i1⟩ := ih
    refine ⟨?_, ?_⟩
    · intros; rename_i H; simp only [spec_WordMatrix.l0] at H; refine go _ _ ?_; exact run_
    · intros; rename_i H; simp only [spec_WordMatrix.l1] at H; refine go _ _ ?_; exact run_
  have i0 := fun kk => (hs kk).1
  have i1 := fun kk => (hs kk).2
  simp only [spec_WordMatrix.f] at H; refine go _ _ ?_; exact run_
end Go.Proofs.YtanckmepopmjkabGreat.QW
