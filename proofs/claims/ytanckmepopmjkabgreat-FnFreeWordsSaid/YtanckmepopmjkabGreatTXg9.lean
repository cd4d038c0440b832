/- The functions' contracts, by the evaluator. No condition. -/
import Derived.Test.YtanckmepopmjkabGreatTXg8
set_option linter.unusedVariables false
set_option linter.unusedSimpArgs false
set_option maxRecDepth 100000
set_option maxHeartbeats 4000000
namespace Go.Proofs.YtanckmepopmjkabGreat.QW
open Go.RowKit Go.Proofs.YtanckmepopmjkabGreatW.PrintWords Go.Proofs.YtanckmepopmjkabGreatW.PrintLast Go.Proofs.YtanckmepopmjkabGreatW.PrintMore Go.Tx
theorem impl_sideOf.sem {k : Nat} {a0 : Int} {l1 : List (S32)} {a2_0 : Int} {a2_1 : Int} {r : Int} (H : impl_sideOf.f k a0 l1 a2_0 a2_1 = some r) :
    CSem Tryz.prog Vs 48 [.lf (ii a0), .lf (.row .lent (.nam 3) l1), .agg [ii a2_0, ii a2_1]] [.lf (ii r)] [] := by
  have c0_ := @impl_sideHas.sem
  refine fs_ Tryz.f48 ?_
  intro G go sub seal_
  have hs : ∀ kk : Nat, (∀ (x0 : Int) (x10 : List (S32)) (x11 x12 x800000 x800001 : Int) (H : impl_sideOf.l0 kk x0 x10 x11 x12 x800000 x800001 = some r), G (loopAt Tryz.f48 [1, 0, 1, 0]) (hdSt [(0, ai x0), (5, ap 5), (10, al (.row .lent (.nam 3) x10)), (11, ai x11), (12, ai x12)] [(5, 38, [ii x800000, ii x800001])])) := by
    intro kk
    induction kk with
    | zero => (intros; rename_i H; cases H)
    | succ kk ih =>
    have i0 := ih
    intros; rename_i H; simp only [impl_sideOf.l0] at H; refine go _ _ ?_; exact run_
  have i0 := fun kk => (hs kk)
  simp only [impl_sideOf.f] at H; refine go _ _ ?_; exact run_
theorem impl_endAt.sem {k : Nat} {a0 : Int} {a1 : Int} {r1 : Int} {r2 : Int} {r3 : Bool} (H : impl_endAt.f k a0 a1 = some (r1, r2, r3)) :
    CSem Tryz.prog Vs 88 [.lf (ii a0), .lf (ii a1)] [.agg [ii r1, ii r2], .lf (.bool r3)] [] := by
  have c0_ := @impl_IsEnd.sem
  have c1_ := @impl_gcd.sem
  refine fs_ Tryz.f88 ?_
  intro G go sub seal_
  simp only [impl_endAt.f] at H; refine go _ _ ?_; exact run_
theorem impl_moveEnd.sem {k : Nat} {a0_0 : Int} {a0_1 : Int} {a0_2 : Int} {a0_3 : Int} {a1_0 : Int} {a1_1 : Int} {r1 : Int} {r2 : Int} {r3 : Bool} (H : impl_moveEnd.f k a0_0 a0_1 a0_2 a0_3 a1_0 a1_1 = some (r1, r2, r3)) :
    CSem Tryz.prog Vs 49 [.agg [ii a0_0, ii a0_1, ii a0_2, ii a0_3], .agg [ii a1_0, ii a1_1]] [.agg [ii r1, ii r2], .lf (.bool r3)] [] := by
  have c0_ := @impl_endAt.sem
  refine fs_ Tryz.f49 ?_
  intro G go sub seal_
  simp only [impl_moveEnd.f] at H; refine go _ _ ?_; exact run_
theorem impl_BringOut.sem {k : Nat} {a0 : Int} {l1 : List (S47)} {l2 : List (S32)} {a3_0 : Int} {a3_1 : Int} {r1 : List Int} {r2 : Int} {r3 : Int} {r4 : Int} (H : impl_BringOut.f k a0 l1 l2 a3_0 a3_1 = some (r1, r2, r3, r4)) :
    CSem Tryz.prog Vs 10 [.lf (ii a0), .lf (.row .lent (.nam 1) l1), .lf (.row .lent (.nam 3) l2), .agg [ii a3_0, ii a3_1]] [.own 2 (.int .i64) r1, .agg [ii r2, ii r3], .lf (ii r4)] [] := by
  have c0_ := @impl_freeCode.sem
  have c1_ := @impl_letterMatrix.sem
  have c2_ := @impl_IsEnd.sem
  have c3_ := @impl_sideOf.sem
  have c4_ := @impl_moveEnd.sem
  have c5_ := @impl_inverted.sem
  refine fs_ Tryz.f10 ?_
  intro G go sub seal_
  have hs : ∀ kk : Nat, (∀ (x0 : Int) (x1 : List (S47)) (x2 : List (S32)) (x13 : List Int) (x816000 x816001 x817000 x817001 : Int) (H : impl_BringOut.l0 kk x0 x1 x2 x13 x816000 x816001 = some (r1, r2, r3, r4)), G (loopAt Tryz.f10 [1, 1, 1, 1, 1, 0]) (hdSt [(0, ai x0), (1, al (.row .lent (.nam 1) x1)), (2, al (.row .lent (.nam 3) x2)), (7, ap 7), (9, ap 9), (13, .own 13 2 (.int .i64) x13)] [(7, 38, [ii x816000, ii x816001]), (9, 38, [ii x817000, ii x817001])])) := by
    intro kk
    induction kk with
    | zero => (intros; rename_i H; cases H)
    | succ kk ih =>
    have i0 := ih
    intros; rename_i H; simp only [impl_BringOut.l0] at H; refine go _ _ ?_; exact run_
  have i0 := fun kk => (hs kk)
  simp only [impl_BringOut.f] at H; refine go _ _ ?_; exact run_
theorem spec_l01End.sem {k : Nat} {a0_0 : Int} {a0_1 : Int} {r : Bool} (H : spec_l01End.f k a0_0 a0_1 = some r) :
    CSem Tryz.prog Vs 51 [.agg [ii a0_0, ii a0_1]] [.lf (.bool r)] [] := by
  have c0_ := @spec_l01In.sem
  have c1_ := @spec_l01Gcd.sem
  refine fs_ Tryz.f51 ?_
  intro G go sub seal_
  simp only [spec_l01End.f] at H; refine go _ _ ?_; exact run_
theorem spec_l02Meet.sem {k : Nat} {a0 : Int} {a1_0 : Int} {a1_1 : Int} {a1_2 : Int} {a2_0 : Int} {a2_1 : Int} {r : Int} (H : spec_l02Meet.f k a0 a1_0 a1_1 a1_2 a2_0 a2_1 = some r) :
    CSem Tryz.prog Vs 90 [.lf (ii a0), .agg [ii a1_0, ii a1_1, ii a1_2], .agg [ii a2_0, ii a2_1]] [.lf (ii r)] [] := by
  have c0_ := @spec_l01Power.sem
  have c1_ := @spec_l01Val.sem
  refine fs_ Tryz.f90 ?_
  intro G go sub seal_
  simp only [spec_l02Meet.f] at H; refine go _ _ ?_; exact run_
theorem spec_l09Has.sem {k : Nat} {a0 : Int} {a1_0 : Int} {a1_1 : Int} {a1_2 : Int} {a1_3 : Bool} {a2_0 : Int} {a2_1 : Int} {r : Bool} (H : spec_l09Has.f k a0 a1_0 a1_1 a1_2 a1_3 a2_0 a2_1 = some r) :
    CSem Tryz.prog Vs 52 [.lf (ii a0), .agg [ii a1_0, ii a1_1, ii a1_2, .bool a1_3], .agg [ii a2_0, ii a2_1]] [.lf (.bool r)] [] := by
  have c0_ := @spec_l02Meet.sem
  refine fs_ Tryz.f52 ?_
  intro G go sub seal_
  simp only [spec_l09Has.f] at H; refine go _ _ ?_; exact run_
theorem spec_BringOut.sem {k : Nat} {a0 : Int} {l1 : List (S47)} {l2 : List (S32)} {a3_0 : Int} {a3_1 : Int} {r1 : List Int} {r2 : Int} {r3 : Int} {r4 : Int} (H : spec_BringOut.f k a0 l1 l2 a3_0 a3_1 = some (r1, r2, r3, r4)) :
    CSem Tryz.prog Vs 11 [.lf (ii a0), .lf (.row .lent (.nam 1) l1), .lf (.row .lent (.nam 3) l2), .agg [ii a3_0, ii a3_1]] [.own 2 (.int .i64) r1, .agg [ii r2, ii r3], .lf (ii r4)] [] := by
  have c0_ := @spec_l09List.sem
  have c1_ := @spec_l09Ready.sem
  have c2_ := @spec_l09Letter.sem
  have c3_ := @spec_l04End.sem
  have c4_ := @spec_l01End.sem
  have c5_ := @spec_l09Has.sem
  refine fs_ Tryz.f11 ?_
  intro G go sub seal_
  have hs : ∀ kk : Nat, (∀ (x0 : Int) (x1 : List (S47)) (x2 : List (S32)) (x11 : Int) (x27 : Bool) (x852000 x852001 x853000 x853001 : Int) (H : spec_BringOut.j0 kk x0 x1 x2 x11 x27 x852000 x852001 = some (r1, r2, r3, r4)), G (contAt Tryz.f11 [1, 1, 0, 0]) (hdSt [(0, ai x0), (1, al (.row .lent (.nam 1) x1)), (2, al (.row .lent (.nam 3) x2)), (7, ap 7), (9, ap 9), (11, ai x11), (27, al (.bool x27))] [(7, 38, [ii x852000, ii x852001]), (9, 38, [ii x853000, ii x853001])])) ∧ (∀ (x0 : Int) (x1 : List (S47)) (x2 : List (S32)) (x11 x852000 x852001 x853000 x853001 : Int) (H : spec_BringOut.j1 kk x0 x1 x2 x11 x852000 x852001 = some (r1, r2, r3, r4)), G (contAt Tryz.f11 [1, 1, 1, 0, 1]) (hdSt [(0, ai x0), (1, al (.row .lent (.nam 1) x1)), (2, al (.row .lent (.nam 3) x2)), (7, ap 7), (9, ap 9), (11, ai x11)] [(7, 38, [ii x852000, ii x852001]), (9, 38, [ii x853000, ii x853001])])) ∧ (∀ (x0 : Int) (x1 : List (S47)) (x2 : List (S32)) (x12 : List Int) (x852000 x852001 x853000 x853001 : Int) (H : spec_BringOut.l0 kk x0 x1 x2 x12 x852000 x852001 = some (r1, r2, r3, r4)), G (loopAt Tryz.f11 [1, 1, 1, 1, 1, 1, 0]) (hdSt [(0, ai x0), (1, al (.row .lent (.nam 1) x1)), (2, al (.row .lent (.nam 3) x2)), (7, ap 7), (9, ap 9), (12, .own 12 2 (.int .i64) x12)] [(7, 38, [ii x852000, ii x852001]), (9, 38, [ii x853000, ii x853001])])) ∧ (∀ (x0 : Int) (x1 : List (S47)) (x2 : List (S32)) (x12 : List Int) (x13 x14 x852000 x852001 x853000 x853001 : Int) (H : spec_BringOut.l1 kk x0 x1 x2 x12 x13 x14 x852000 x852001 = some (r1, r2, r3, r4)), G (loopAt Tryz.f11 [1, 1, 1, 1, 1, 1, 0, 0, 0, 1, 0, 1, 0]) (hdSt [(0, ai x0), (1, al (.row .lent (.nam 1) x1)), (2, al (.row .lent (.nam 3) x2)), (7, ap 7), (9, ap 9), (12, .own 12 2 (.int .i64) x12), (13, ai x13), (14, ai x14)] [(7, 38, [ii x852000, ii x852001]), (9, 38, [ii x853000, ii x853001])])) := by
    intro kk
    induction kk with
    | zero => refine ⟨?_, ?_, ?_, ?_⟩ <;> (intros; rename_i H; cases H)
    | succ kk ih =>
    obtain ⟨i0, i1, i2, i3⟩ := ih
    refine ⟨?_, ?_, ?_, ?_⟩
    · intros; rename_i H; simp only [spec_BringOut.j0] at H; refine go _ _ ?_; exact run_
    · intros; rename_i H; simp only [spec_BringOut.j1] at H; refine go _ _ ?_; exact run_
    · intros; rename_i H; simp only [spec_BringOut.l0] at H; refine go _ _ ?_; exact run_
    · intros; rename_i H; simp only [spec_BringOut.l1] at H; refine go _ _ ?_; exact run_
  have i0 := fun kk => (hs kk).1
  have i1 := fun kk => (hs kk).2.1
  have i2 := fun kk => (hs kk).2.2.1
  have i3 := fun kk => (hs kk).2.2.2
  simp only [spec_BringOut.f] at H; refine go _ _ ?_; exact run_
theorem laws_likeInts.sem {k : Nat} {l0 : List Int} {l1 : List Int} {r : Bool} (H : laws_likeInts.f k l0 l1 = some r) :
    CSem Tryz.prog Vs 12 [.lf (.row .lent (.int .i64) l0), .lf (.row .lent (.int .i64) l1)] [.lf (.bool r)] [] := by
  refine fs_ Tryz.f12 ?_
  intro G go sub seal_
  have hs : ∀ kk : Nat, (∀ (x0 x1 : List Int) (x5 : Int) (H : laws_likeInts.l0 kk x0 x1 x5 = some r), G (loopAt Tryz.f12 [1, 1, 0, 1, 0]) (hdSt [(0, al (.row .lent (.int .i64) x0)), (1, al (.row .lent (.int .i64) x1)), (5, ai x5)] [])) := by
    intro kk
    induction kk with
    | zero => (intros; rename_i H; cases H)
    | succ kk ih =>
    have i0 := ih
    intros; rename_i H; simp only [laws_likeInts.l0] at H; refine go _ _ ?_; exact run_
  have i0 := fun kk => (hs kk)
  simp only [laws_likeInts.f] at H; refine go _ _ ?_; exact run_
end Go.Proofs.YtanckmepopmjkabGreat.QW
