/- The functions' contracts, by the evaluator. No condition. -/
import Derived.Test.YtanckmepopmjkabGreatTXg4
set_option linter.unusedVariables false
set_option linter.unusedSimpArgs false
set_option maxRecDepth 100000
set_option maxHeartbeats 4000000
namespace Go.Proofs.YtanckmepopmjkabGreat.QW
open Go.RowKit Go.Proofs.YtanckmepopmjkabGreatW.PrintWords Go.Proofs.YtanckmepopmjkabGreatW.PrintLast Go.Proofs.YtanckmepopmjkabGreatW.PrintMore Go.Tx
theorem impl_freeCode.sem {k : Nat} {a0 : Int} {l1 : List (S47)} {l2 : List (S32)} {r1 : Bool} {r2 : Int} (H : impl_freeCode.f k a0 l1 l2 = some (r1, r2)) :
    CSem Tryz.prog Vs 29 [.lf (ii a0), .lf (.row .lent (.nam 1) l1), .lf (.row .lent (.nam 3) l2)] [.lf (.bool r1), .lf (ii r2)] [] := by
  have c0_ := @impl_areSides.sem
  have c1_ := @impl_areMatrices.sem
  have c2_ := @impl_isFree.sem
  refine fs_ Tryz.f29 ?_
  intro G go sub seal_
  have hs : ∀ kk : Nat, (∀ (x0 : Int) (x1 : List (S47)) (x2 : List (S32)) (x8 : Bool) (H : impl_freeCode.j0 kk x0 x1 x2 x8 = some (r1, r2)), G (contAt Tryz.f29 [1, 0, 0, 0]) (hdSt [(0, ai x0), (1, al (.row .lent (.nam 1) x1)), (2, al (.row .lent (.nam 3) x2)), (8, al (.bool x8))] [])) := by
    intro kk
    induction kk with
    | zero => (intros; rename_i H; cases H)
    | succ kk ih =>
    have i0 := ih
    intros; rename_i H; simp only [impl_freeCode.j0] at H; refine go _ _ ?_; exact run_
  have i0 := fun kk => (hs kk)
  simp only [impl_freeCode.f] at H; refine go _ _ ?_; exact run_
theorem impl_isWord.sem {k : Nat} {a0 : Int} {l1 : List Int} {r : Bool} (H : impl_isWord.f k a0 l1 = some r) :
    CSem Tryz.prog Vs 30 [.lf (ii a0), .lf (.row .lent (.int .i64) l1)] [.lf (.bool r)] [] := by
  have c0_ := @impl_within.sem
  refine fs_ Tryz.f30 ?_
  intro G go sub seal_
  have hs : ∀ kk : Nat, (∀ (x0 : Int) (x1 x7 : List Int) (x8 x9 : Int) (H : impl_isWord.l0 kk x0 x1 x7 x8 x9 = some r), G (loopAt Tryz.f30 [1, 0, 1, 0]) (hdSt [(0, ai x0), (1, al (.row .lent (.int .i64) x1)), (7, al (.row .lent (.int .i64) x7)), (8, ai x8), (9, ai x9)] [])) := by
    intro kk
    induction kk with
    | zero => (intros; rename_i H; cases H)
    | succ kk ih =>
    have i0 := ih
    intros; rename_i H; simp only [impl_isWord.l0] at H; refine go _ _ ?_; exact run_
  have i0 := fun kk => (hs kk)
  simp only [impl_isWord.f] at H; refine go _ _ ?_; exact run_
theorem impl_isShort.sem {k : Nat} {l0 : List Int} {r : Bool} (H : impl_isShort.f k l0 = some r) :
    CSem Tryz.prog Vs 31 [.lf (.row .lent (.int .i64) l0)] [.lf (.bool r)] [] := by
  refine fs_ Tryz.f31 ?_
  intro G go sub seal_
  have hs : ∀ kk : Nat, (∀ (x0 : List Int) (x3 : Int) (H : impl_isShort.l0 kk x0 x3 = some r), G (loopAt Tryz.f31 [1, 0, 1, 0]) (hdSt [(0, al (.row .lent (.int .i64) x0)), (3, ai x3)] [])) := by
    intro kk
    induction kk with
    | zero => (intros; rename_i H; cases H)
    | succ kk ih =>
    have i0 := ih
    intros; rename_i H; simp only [impl_isShort.l0] at H; refine go _ _ ?_; exact run_
  have i0 := fun kk => (hs kk)
  simp only [impl_isShort.f] at H; refine go _ _ ?_; exact run_
theorem impl_letterSide.sem {l0 : List (S32)} {a1 : Int} {r1 : Int} {r2 : Int} {r3 : Int} {r4 : Bool} (H : impl_letterSide.f l0 a1 = some (r1, r2, r3, r4)) :
    CSem Tryz.prog Vs 32 [.lf (.row .lent (.nam 3) l0), .lf (ii a1)] [.agg [ii r1, ii r2, ii r3, .bool r4]] [] := by
  refine fs_ Tryz.f32 ?_
  intro G go sub seal_
  simp only [impl_letterSide.f] at H; refine go _ _ ?_; exact run_
theorem impl_gcd.sem {k : Nat} {a0 : Int} {a1 : Int} {r : Int} (H : impl_gcd.f k a0 a1 = some r) :
    CSem Tryz.prog Vs 86 [.lf (ii a0), .lf (ii a1)] [.lf (ii r)] [] := by
  refine fs_ Tryz.f86 ?_
  intro G go sub seal_
  have hs : ∀ kk : Nat, (∀ (x0 x1 : Int) (H : impl_gcd.l0 kk x0 x1 = some r), G (loopAt Tryz.f86 [1, 0, 0]) (hdSt [(0, ai x0), (1, ai x1)] [])) := by
    intro kk
    induction kk with
    | zero => (intros; rename_i H; cases H)
    | succ kk ih =>
    have i0 := ih
    intros; rename_i H; simp only [impl_gcd.l0] at H; refine go _ _ ?_; exact run_
  have i0 := fun kk => (hs kk)
  simp only [impl_gcd.f] at H; refine go _ _ ?_; exact run_
theorem impl_reduced.sem {k : Nat} {a0_0 : Int} {a0_1 : Int} {a0_2 : Int} {a0_3 : Int} {r1 : Int} {r2 : Int} {r3 : Int} {r4 : Int} {r5 : Bool} (H : impl_reduced.f k a0_0 a0_1 a0_2 a0_3 = some (r1, r2, r3, r4, r5)) :
    CSem Tryz.prog Vs 91 [.agg [ii a0_0, ii a0_1, ii a0_2, ii a0_3]] [.agg [ii r1, ii r2, ii r3, ii r4], .lf (.bool r5)] [] := by
  have c0_ := @impl_IsMatrix.sem
  have c1_ := @impl_gcd.sem
  refine fs_ Tryz.f91 ?_
  intro G go sub seal_
  have hs : ∀ kk : Nat, (∀ (x4 : Int) (x37 : Bool) (x531000 x531001 x531002 x531003 x532000 x532001 x532002 x532003 : Int) (H : impl_reduced.j0 kk x4 x37 x531000 x531001 x531002 x531003 = some (r1, r2, r3, r4, r5)), G (contAt Tryz.f91 [1, 1, 0, 0]) (hdSt [(1, ap 1), (2, ap 2), (4, ai x4), (37, al (.bool x37))] [(1, 47, [ii x531000, ii x531001, ii x531002, ii x531003]), (2, 47, [ii x532000, ii x532001, ii x532002, ii x532003])])) ∧ (∀ (x4 x531000 x531001 x531002 x531003 x532000 x532001 x532002 x532003 : Int) (H : impl_reduced.j1 kk x4 x531000 x531001 x531002 x531003 = some (r1, r2, r3, r4, r5)), G (contAt Tryz.f91 [1, 1, 0, 1]) (hdSt [(1, ap 1), (2, ap 2), (4, ai x4)] [(1, 47, [ii x531000, ii x531001, ii x531002, ii x531003]), (2, 47, [ii x532000, ii x532001, ii x532002, ii x532003])])) ∧ (∀ (x4 x40 x531000 x531001 x531002 x531003 x532000 x532001 x532002 x532003 : Int) (H : impl_reduced.l0 kk x4 x40 x531000 x531001 x531002 x531003 = some (r1, r2, r3, r4, r5)), G (loopAt Tryz.f91 [1, 1, 1, 0, 1, 0]) (hdSt [(1, ap 1), (2, ap 2), (4, ai x4), (40, ai x40)] [(1, 47, [ii x531000, ii x531001, ii x531002, ii x531003]), (2, 47, [ii x532000, ii x532001, ii x532002, ii x532003])])) ∧ (∀ (x4 x5 x40 x43 x531000 x531001 x531002 x531003 x532000 x532001 x532002 x532003 : Int) (H : impl_reduced.l1 kk x4 x5 x40 x43 x531000 x531001 x531002 x531003 = some (r1, r2, r3, r4, r5)), G (loopAt Tryz.f91 [1, 1, 1, 0, 1, 0, 0, 1, 1, 0, 0, 1, 1, 0]) (hdSt [(1, ap 1), (2, ap 2), (4, ai x4), (5, ai x5), (40, ai x40), (43, ai x43)] [(1, 47, [ii x531000, ii x531001, ii x531002, ii x531003]), (2, 47, [ii x532000, ii x532001, ii x532002, ii x532003])])) := by
    intro kk
    induction kk with
    | zero => refine ⟨?_, ?_, ?_, ?_⟩ <;> (intros; rename_i H; cases H)
    | succ kk ih =>
    obtain ⟨i0, i1, i2, i3⟩ := ih
    refine ⟨?_, ?_, ?_, ?_⟩
    · intros; rename_i H; simp only [impl_reduced.j0] at H; refine go _ _ ?_; exact run_
    · intros; rename_i H; simp only [impl_reduced.j1] at H; refine go _ _ ?_; exact run_
    · intros; rename_i H; simp only [impl_reduced.l0] at H; refine go _ _ ?_; exact run_
    · intros; rename_i H; simp only [impl_reduced.l1] at H; refine go _ _ ?_; exact run_
  have i0 := fun kk => (hs kk).1
  have i1 := fun kk => (hs kk).2.1
  have i2 := fun kk => (hs kk).2.2.1
  have i3 := fun kk => (hs kk).2.2.2
  simp only [impl_reduced.f] at H; refine go _ _ ?_; exact run_
theorem impl_reduce.sem {k : Nat} {a0_0 : Int} {a0_1 : Int} {a0_2 : Int} {a0_3 : Int} {r1 : Int} {r2 : Int} {r3 : Int} {r4 : Int} (H : impl_reduce.f k a0_0 a0_1 a0_2 a0_3 = some (r1, r2, r3, r4)) :
    CSem Tryz.prog Vs 76 [.agg [ii a0_0, ii a0_1, ii a0_2, ii a0_3]] [.agg [ii r1, ii r2, ii r3, ii r4]] [] := by
  have c0_ := @impl_reduced.sem
  refine fs_ Tryz.f76 ?_
  intro G go sub seal_
  simp only [impl_reduce.f] at H; refine go _ _ ?_; exact run_
theorem impl_inverted.sem {k : Nat} {a0_0 : Int} {a0_1 : Int} {a0_2 : Int} {a0_3 : Int} {r1 : Int} {r2 : Int} {r3 : Int} {r4 : Int} (H : impl_inverted.f k a0_0 a0_1 a0_2 a0_3 = some (r1, r2, r3, r4)) :
    CSem Tryz.prog Vs 50 [.agg [ii a0_0, ii a0_1, ii a0_2, ii a0_3]] [.agg [ii r1, ii r2, ii r3, ii r4]] [] := by
  have c0_ := @impl_reduce.sem
  refine fs_ Tryz.f50 ?_
  intro G go sub seal_
  simp only [impl_inverted.f] at H; refine go _ _ ?_; exact run_
theorem impl_letterMatrix.sem {k : Nat} {l0 : List (S47)} {a1 : Int} {r1 : Int} {r2 : Int} {r3 : Int} {r4 : Int} (H : impl_letterMatrix.f k l0 a1 = some (r1, r2, r3, r4)) :
    CSem Tryz.prog Vs 34 [.lf (.row .lent (.nam 1) l0), .lf (ii a1)] [.agg [ii r1, ii r2, ii r3, ii r4]] [] := by
  have c0_ := @impl_inverted.sem
  have c1_ := @impl_reduce.sem
  refine fs_ Tryz.f34 ?_
  intro G go sub seal_
  simp only [impl_letterMatrix.f] at H; refine go _ _ ?_; exact run_
end Go.Proofs.YtanckmepopmjkabGreat.QW
