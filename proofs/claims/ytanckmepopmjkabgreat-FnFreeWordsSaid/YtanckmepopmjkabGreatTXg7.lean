/- The functions' contracts, by the evaluator. No condition. -/
import Derived.Test.YtanckmepopmjkabGreatTXg6
set_option linter.unusedVariables false
set_option linter.unusedSimpArgs false
set_option maxRecDepth 100000
set_option maxHeartbeats 4000000
namespace Go.Proofs.YtanckmepopmjkabGreat.QW
open Go.RowKit Go.Proofs.YtanckmepopmjkabGreatW.PrintWords Go.Proofs.YtanckmepopmjkabGreatW.PrintLast Go.Proofs.YtanckmepopmjkabGreatW.PrintMore Go.Tx
theorem spec_l09Move.sem {k : Nat} {a0 : Int} {a1_0 : Int} {a1_1 : Int} {a1_2 : Int} {a1_3 : Int} {a2_0 : Int} {a2_1 : Int} {a2_2 : Int} {a2_3 : Bool} {r1 : Int} {r2 : Int} {r3 : Int} {r4 : Bool} {r5 : Bool} (H : spec_l09Move.f k a0 a1_0 a1_1 a1_2 a1_3 a2_0 a2_1 a2_2 a2_3 = some (r1, r2, r3, r4, r5)) :
    CSem Tryz.prog Vs 40 [.lf (ii a0), .agg [ii a1_0, ii a1_1, ii a1_2, ii a1_3], .agg [ii a2_0, ii a2_1, ii a2_2, .bool a2_3]] [.agg [ii r1, ii r2, ii r3, .bool r4], .lf (.bool r5)] [] := by
  have c0_ := @spec_l01Power.sem
  have c1_ := @spec_l01Val.sem
  have c2_ := @spec_l01Of.sem
  refine fs_ Tryz.f40 ?_
  intro G go sub seal_
  have hs : ∀ kk : Nat, (∀ (x0 x9 x10 x11 x12 : Int) (x13 : Bool) (x606000 x606001 x606002 x606003 x607000 x607001 x607002 : Int) (x607003 : Bool) (x608000 x608001 x608002 : Int) (x608003 : Bool) (H : spec_l09Move.j0 kk x0 x9 x10 x11 x12 x13 x606000 x606001 x606002 x606003 x607000 x607001 x607002 x607003 = some (r1, r2, r3, r4, r5)), G (contAt Tryz.f40 [1, 1, 1, 1, 1, 0]) (hdSt [(0, ai x0), (4, ap 4), (5, ap 5), (6, ap 6), (9, ai x9), (10, ai x10), (11, ai x11), (12, ai x12), (13, al (.bool x13))] [(4, 47, [ii x606000, ii x606001, ii x606002, ii x606003]), (5, 32, [ii x607000, ii x607001, ii x607002, .bool x607003]), (6, 32, [ii x608000, ii x608001, ii x608002, .bool x608003])])) := by
    intro kk
    induction kk with
    | zero => (intros; rename_i H; cases H)
    | succ kk ih =>
    have i0 := ih
    intros; rename_i H; simp only [spec_l09Move.j0] at H; refine go _ _ ?_; exact run_
  have i0 := fun kk => (hs kk)
  simp only [spec_l09Move.f] at H; refine go _ _ ?_; exact run_
theorem spec_l01Holds.sem {k : Nat} {a0 : Int} {a1_0 : Int} {a1_1 : Int} {a1_2 : Int} {a2_0 : Int} {a2_1 : Int} {a2_2 : Int} {r : Bool} (H : spec_l01Holds.f k a0 a1_0 a1_1 a1_2 a2_0 a2_1 a2_2 = some r) :
    CSem Tryz.prog Vs 108 [.lf (ii a0), .agg [ii a1_0, ii a1_1, ii a1_2], .agg [ii a2_0, ii a2_1, ii a2_2]] [.lf (.bool r)] [] := by
  have c0_ := @spec_l01Power.sem
  have c1_ := @spec_l01Of.sem
  refine fs_ Tryz.f108 ?_
  intro G go sub seal_
  simp only [spec_l01Holds.f] at H; refine go _ _ ?_; exact run_
theorem spec_l09Apart.sem {k : Nat} {a0 : Int} {a1_0 : Int} {a1_1 : Int} {a1_2 : Int} {a1_3 : Bool} {a2_0 : Int} {a2_1 : Int} {a2_2 : Int} {a2_3 : Bool} {r : Bool} (H : spec_l09Apart.f k a0 a1_0 a1_1 a1_2 a1_3 a2_0 a2_1 a2_2 a2_3 = some r) :
    CSem Tryz.prog Vs 92 [.lf (ii a0), .agg [ii a1_0, ii a1_1, ii a1_2, .bool a1_3], .agg [ii a2_0, ii a2_1, ii a2_2, .bool a2_3]] [.lf (.bool r)] [] := by
  have c0_ := @spec_l01Holds.sem
  refine fs_ Tryz.f92 ?_
  intro G go sub seal_
  have hs : ∀ kk : Nat, (∀ (x0 : Int) (x7 : Bool) (x633000 x633001 x633002 : Int) (x633003 : Bool) (x634000 x634001 x634002 : Int) (x634003 : Bool) (H : spec_l09Apart.j0 kk x0 x7 x633000 x633001 x633002 x633003 x634000 x634001 x634002 x634003 = some r), G (contAt Tryz.f92 [1, 0, 0, 0]) (hdSt [(0, ai x0), (4, ap 4), (5, ap 5), (7, al (.bool x7))] [(4, 32, [ii x633000, ii x633001, ii x633002, .bool x633003]), (5, 32, [ii x634000, ii x634001, ii x634002, .bool x634003])])) := by
    intro kk
    induction kk with
    | zero => (intros; rename_i H; cases H)
    | succ kk ih =>
    have i0 := ih
    intros; rename_i H; simp only [spec_l09Apart.j0] at H; refine go _ _ ?_; exact run_
  have i0 := fun kk => (hs kk)
  simp only [spec_l09Apart.f] at H; refine go _ _ ?_; exact run_
theorem spec_l09Free.sem {k : Nat} {a0 : Int} {l1 : List (S47)} {l2 : List (S32)} {r1 : Bool} {r2 : Int} (H : spec_l09Free.f k a0 l1 l2 = some (r1, r2)) :
    CSem Tryz.prog Vs 59 [.lf (ii a0), .lf (.row .lent (.nam 1) l1), .lf (.row .lent (.nam 3) l2)] [.lf (.bool r1), .lf (ii r2)] [] := by
  have c0_ := @spec_l09Move.sem
  have c1_ := @spec_l09Apart.sem
  refine fs_ Tryz.f59 ?_
  intro G go sub seal_
  have hs : ∀ kk : Nat, (∀ (x0 : Int) (x1 : List (S47)) (x2 : List (S32)) (x8 : Int) (H : spec_l09Free.l0 kk x0 x1 x2 x8 = some (r1, r2)), G (loopAt Tryz.f59 [1, 0, 1, 0]) (hdSt [(0, ai x0), (1, al (.row .lent (.nam 1) x1)), (2, al (.row .lent (.nam 3) x2)), (8, ai x8)] [])) ∧ (∀ (x0 : Int) (x1 : List (S47)) (x2 : List (S32)) (x8 x9 : Int) (H : spec_l09Free.l1 kk x0 x1 x2 x8 x9 = some (r1, r2)), G (loopAt Tryz.f59 [1, 0, 1, 0, 0, 1, 0, 0, 1, 0]) (hdSt [(0, ai x0), (1, al (.row .lent (.nam 1) x1)), (2, al (.row .lent (.nam 3) x2)), (8, ai x8), (9, ai x9)] [])) ∧ (∀ (x0 : Int) (x1 : List (S47)) (x2 : List (S32)) (x10 : Int) (H : spec_l09Free.l2 kk x0 x1 x2 x10 = some (r1, r2)), G (loopAt Tryz.f59 [1, 1, 0, 1, 0]) (hdSt [(0, ai x0), (1, al (.row .lent (.nam 1) x1)), (2, al (.row .lent (.nam 3) x2)), (10, ai x10)] [])) := by
    intro kk
    induction kk with
    | zero => refine ⟨?_, ?_, ?_⟩ <;> (intros; rename_i H; cases H)
    | succ kk ih =>
    obtain ⟨i0, i1, i2⟩ := ih
    refine ⟨?_, ?_, ?_⟩
    · intros; rename_i H; simp only [spec_l09Free.l0] at H; refine go _ _ ?_; exact run_
    · intros; rename_i H; simp only [spec_l09Free.l1] at H; refine go _ _ ?_; exact run_
    · intros; rename_i H; simp only [spec_l09Free.l2] at H; refine go _ _ ?_; exact run_
  have i0 := fun kk => (hs kk).1
  have i1 := fun kk => (hs kk).2.1
  have i2 := fun kk => (hs kk).2.2
  simp only [spec_l09Free.f] at H; refine go _ _ ?_; exact run_
theorem spec_l09Ready.sem {k : Nat} {a0 : Int} {l1 : List (S47)} {l2 : List (S32)} {r : Int} (H : spec_l09Ready.f k a0 l1 l2 = some r) :
    CSem Tryz.prog Vs 37 [.lf (ii a0), .lf (.row .lent (.nam 1) l1), .lf (.row .lent (.nam 3) l2)] [.lf (ii r)] [] := by
  have c0_ := @spec_l09Free.sem
  refine fs_ Tryz.f37 ?_
  intro G go sub seal_
  simp only [spec_l09Ready.f] at H; refine go _ _ ?_; exact run_
theorem spec_l09Short.sem {k : Nat} {l0 : List Int} {r : Bool} (H : spec_l09Short.f k l0 = some r) :
    CSem Tryz.prog Vs 38 [.lf (.row .lent (.int .i64) l0)] [.lf (.bool r)] [] := by
  refine fs_ Tryz.f38 ?_
  intro G go sub seal_
  have hs : ∀ kk : Nat, (∀ (x0 : List Int) (x3 : Int) (H : spec_l09Short.l0 kk x0 x3 = some r), G (loopAt Tryz.f38 [1, 0, 1, 0]) (hdSt [(0, al (.row .lent (.int .i64) x0)), (3, ai x3)] [])) := by
    intro kk
    induction kk with
    | zero => (intros; rename_i H; cases H)
    | succ kk ih =>
    have i0 := ih
    intros; rename_i H; simp only [spec_l09Short.l0] at H; refine go _ _ ?_; exact run_
  have i0 := fun kk => (hs kk)
  simp only [spec_l09Short.f] at H; refine go _ _ ?_; exact run_
theorem spec_l09Of.sem {l0 : List (S32)} {a1 : Int} {r1 : Int} {r2 : Int} {r3 : Int} {r4 : Bool} (H : spec_l09Of.f l0 a1 = some (r1, r2, r3, r4)) :
    CSem Tryz.prog Vs 39 [.lf (.row .lent (.nam 3) l0), .lf (ii a1)] [.agg [ii r1, ii r2, ii r3, .bool r4]] [] := by
  refine fs_ Tryz.f39 ?_
  intro G go sub seal_
  simp only [spec_l09Of.f] at H; refine go _ _ ?_; exact run_
theorem spec_l04Reduce.sem {k : Nat} {a0_0 : Int} {a0_1 : Int} {a0_2 : Int} {a0_3 : Int} {r1 : Int} {r2 : Int} {r3 : Int} {r4 : Int} {r5 : Bool} (H : spec_l04Reduce.f k a0_0 a0_1 a0_2 a0_3 = some (r1, r2, r3, r4, r5)) :
    CSem Tryz.prog Vs 94 [.agg [ii a0_0, ii a0_1, ii a0_2, ii a0_3]] [.agg [ii r1, ii r2, ii r3, ii r4], .lf (.bool r5)] [] := by
  have c0_ := @spec_l01In.sem
  have c1_ := @spec_l01Gcd.sem
  refine fs_ Tryz.f94 ?_
  intro G go sub seal_
  have hs : ∀ kk : Nat, (∀ (x4 : List Int) (x5 x6 x7 x660000 x660001 x660002 x660003 : Int) (H : spec_l04Reduce.l0 kk x4 x5 x6 x7 = some (r1, r2, r3, r4, r5)), G (loopAt Tryz.f94 [1, 1, 1, 0, 1, 0]) (hdSt [(2, ap 2), (4, .own 4 2 (.int .i64) x4), (5, ai x5), (6, ai x6), (7, ai x7)] [(2, 47, [ii x660000, ii x660001, ii x660002, ii x660003])])) ∧ (∀ (x4 : List Int) (x5 x6 : Int) (x8 : Bool) (x9 x660000 x660001 x660002 x660003 : Int) (H : spec_l04Reduce.l1 kk x4 x5 x6 x8 x9 = some (r1, r2, r3, r4, r5)), G (loopAt Tryz.f94 [1, 1, 1, 1, 1, 1, 0, 1, 0]) (hdSt [(2, ap 2), (4, .own 4 2 (.int .i64) x4), (5, ai x5), (6, ai x6), (8, al (.bool x8)), (9, ai x9)] [(2, 47, [ii x660000, ii x660001, ii x660002, ii x660003])])) := by
    intro kk
    induction kk with
    | zero => refine ⟨?_, ?_⟩ <;> (intros; rename_i H; cases H)
    | succ kk ih =>
    obtain ⟨i0, i1⟩ := ih
    refine ⟨?_, ?_⟩
    · intros; rename_i H; simp only [spec_l04Reduce.l0] at H; refine go _ _ ?_; exact run_
    · intros; rename_i H; simp only [spec_l04Reduce.l1] at H; refine go _ _ ?_; exact run_
  have i0 := fun kk => (hs kk).1
  have i1 := fun kk => (hs kk).2
  simp only [spec_l04Reduce.f] at H; refine go _ _ ?_; exact run_
theorem spec_l04Inverse.sem {k : Nat} {a0_0 : Int} {a0_1 : Int} {a0_2 : Int} {a0_3 : Int} {r1 : Int} {r2 : Int} {r3 : Int} {r4 : Int} (H : spec_l04Inverse.f k a0_0 a0_1 a0_2 a0_3 = some (r1, r2, r3, r4)) :
    CSem Tryz.prog Vs 80 [.agg [ii a0_0, ii a0_1, ii a0_2, ii a0_3]] [.agg [ii r1, ii r2, ii r3, ii r4]] [] := by
  have c0_ := @spec_l04Reduce.sem
  refine fs_ Tryz.f80 ?_
  intro G go sub seal_
  simp only [spec_l04Inverse.f] at H; refine go _ _ ?_; exact run_
end Go.Proofs.YtanckmepopmjkabGreat.QW
