/- The functions' contracts, by the evaluator. No condition. -/
import Derived.Test.YtghebmhlbhmgeaaTXg7
set_option linter.unusedVariables false
set_option linter.unusedSimpArgs false
set_option maxRecDepth 100000
set_option maxHeartbeats 4000000
namespace Go.Proofs.Ytghebmhlbhmgeaa.QS
open Go.RowKit Go.Proofs.YtghebmhlbhmgeaaW.PrintWords Go.Proofs.YtghebmhlbhmgeaaW.PrintLast Go.Proofs.YtghebmhlbhmgeaaW.PrintMore Go.Tx
theorem impl_isFree.sem {k : Nat} {a0 : Int} {l1 : List (S26)} {l2 : List (S30)} {r1 : Bool} {r2 : Int} (H : impl_isFree.f k a0 l1 l2 = some (r1, r2)) :
    CSem Try.prog Vs 75 [.lf (ii a0), .lf (.row .lent (.nam 3) l1), .lf (.row .lent (.nam 1) l2)] [.lf (.bool r1), .lf (ii r2)] [] := by
  have c0_ := @impl_moveSide.sem
  have c1_ := @impl_apartSides.sem
  have c2_ := @impl_opposite.sem
  refine fs_ Try.f75 ?_
  intro G go sub
  have hs : ∀ kk : Nat, (∀ (x0 : Int) (x1 : List (S26)) (x2 x16 : List (S30)) (x17 x18 : Int) (H : impl_isFree.l0 kk x0 x1 x2 x16 x17 x18 = some (r1, r2)), G (loopAt Try.f75 [1, 0, 1, 0]) (hdSt [(0, ai x0), (1, al (.row .lent (.nam 3) x1)), (2, al (.row .lent (.nam 1) x2)), (16, al (.row .lent (.nam 1) x16)), (17, ai x17), (18, ai x18)] [])) ∧ (∀ (x0 : Int) (x1 : List (S26)) (x2 x16 : List (S30)) (x17 x18 : Int) (x25 : List (S30)) (x26 x27 x695000 x695001 x695002 : Int) (x695003 : Bool) (H : impl_isFree.l1 kk x0 x1 x2 x16 x17 x18 x25 x26 x27 x695000 x695001 x695002 x695003 = some (r1, r2)), G (loopAt Try.f75 [1, 0, 1, 0, 0, 1, 1, 0, 0, 1, 1, 0]) (hdSt [(0, ai x0), (1, al (.row .lent (.nam 3) x1)), (2, al (.row .lent (.nam 1) x2)), (9, ap 9), (16, al (.row .lent (.nam 1) x16)), (17, ai x17), (18, ai x18), (25, al (.row .lent (.nam 1) x25)), (26, ai x26), (27, ai x27)] [(9, 30, [ii x695000, ii x695001, ii x695002, .bool x695003])])) ∧ (∀ (x0 : Int) (x2 : List (S30)) (x38 : List (S26)) (x39 x40 : Int) (H : impl_isFree.l2 kk x0 x2 x38 x39 x40 = some (r1, r2)), G (loopAt Try.f75 [1, 1, 0, 1, 0]) (hdSt [(0, ai x0), (2, al (.row .lent (.nam 1) x2)), (38, al (.row .lent (.nam 3) x38)), (39, ai x39), (40, ai x40)] [])) := by
    intro kk
    induction kk with
    | zero => refine ⟨?_, ?_, ?_⟩ <;> (intros; rename_i H; cases H)
    | succ kk ih =>
    obtain ⟨i0, i1, i2⟩ := ih
    refine ⟨?_, ?_, ?_⟩
    · intros; rename_i H; simp only [impl_isFree.l0] at H; refine go _ _ ?_; exact run_
    · intros; rename_i H; simp only [impl_isFree.l1] at H; refine go _ _ ?_; exact run_
    · intros; rename_i H; simp only [impl_isFree.l2] at H; refine go _ _ ?_; exact run_
  have i0 := fun kk => (hs kk).1
  have i1 := fun kk => (hs kk).2.1
  have i2 := fun kk => (hs kk).2.2
  simp only [impl_isFree.f] at H; refine go _ _ ?_; exact run_
theorem impl_freeCode.sem {k : Nat} {a0 : Int} {l1 : List (S26)} {l2 : List (S30)} {r1 : Bool} {r2 : Int} (H : impl_freeCode.f k a0 l1 l2 = some (r1, r2)) :
    CSem Try.prog Vs 45 [.lf (ii a0), .lf (.row .lent (.nam 3) l1), .lf (.row .lent (.nam 1) l2)] [.lf (.bool r1), .lf (ii r2)] [] := by
  have c0_ := @impl_areSides.sem
  have c1_ := @impl_areMatrices.sem
  have c2_ := @impl_isFree.sem
  refine fs_ Try.f45 ?_
  intro G go sub
  have hs : ∀ kk : Nat, (∀ (x0 : Int) (x1 : List (S26)) (x2 : List (S30)) (x8 : Bool) (H : impl_freeCode.j0 kk x0 x1 x2 x8 = some (r1, r2)), G (contAt Try.f45 [1, 0, 0, 0]) (hdSt [(0, ai x0), (1, al (.row .lent (.nam 3) x1)), (2, al (.row .lent (.nam 1) x2)), (8, al (.bool x8))] [])) := by
    intro kk
    induction kk with
    | zero => (intros; rename_i H; cases H)
    | succ kk ih =>
    have i0 := ih
    intros; rename_i H; simp only [impl_freeCode.j0] at H; refine go _ _ ?_; exact run_
  have i0 := fun kk => (hs kk)
  simp only [impl_freeCode.f] at H; refine go _ _ ?_; exact run_
theorem impl_IsFree.sem {k : Nat} {a0 : Int} {l1 : List (S26)} {l2 : List (S30)} {r1 : Bool} {r2 : Int} (H : impl_IsFree.f k a0 l1 l2 = some (r1, r2)) :
    CSem Try.prog Vs 13 [.lf (ii a0), .lf (.row .lent (.nam 3) l1), .lf (.row .lent (.nam 1) l2)] [.lf (.bool r1), .lf (ii r2)] [] := by
  have c0_ := @impl_freeCode.sem
  refine fs_ Try.f13 ?_
  intro G go sub
  simp only [impl_IsFree.f] at H; refine go _ _ ?_; exact run_
theorem spec_l01EndOf.sem {k : Nat} {a0 : Int} {a1 : Int} {r1 : Int} {r2 : Int} {r3 : Bool} (H : spec_l01EndOf.f k a0 a1 = some (r1, r2, r3)) :
    CSem Try.prog Vs 77 [.lf (ii a0), .lf (ii a1)] [.agg [ii r1, ii r2], .lf (.bool r3)] [] := by
  have c0_ := @spec_l01Gcd.sem
  refine fs_ Try.f77 ?_
  intro G go sub
  simp only [spec_l01EndOf.f] at H; refine go _ _ ?_; exact run_
theorem spec_l01DrawEnd.sem {k : Nat} {s0_0 : List Int} {s0_1 : Int} {s0_2 : Int} {r1 : Int} {r2 : Int} {r3 : Int} {r4 : Int} (H : spec_l01DrawEnd.f k s0_0 s0_1 s0_2 = some (r1, r2, r3, r4)) :
    CSem Try.prog Vs 76 [.ref 85 [.row .kept (.int .u8) s0_0, ii s0_1, ik .u64 s0_2]] [.agg [ii r1, ii r2]] [[.row .kept (.int .u8) s0_0, ii r3, ik .u64 r4]] := by
  have c0_ := @spec_l01Pick.sem
  have c1_ := @spec_l01Next.sem
  have c2_ := @spec_l01Power.sem
  have c3_ := @spec_l01EndOf.sem
  refine fs_ Try.f76 ?_
  intro G go sub
  have hs : ∀ kk : Nat, (∀ (x8 : Int) (x9 : Bool) (x1001 x1002 x727000 x727001 : Int) (H : spec_l01DrawEnd.j0 kk x8 x9 s0_0 x1001 x1002 = some (r1, r2, r3, r4)), G (contAt Try.f76 [1, 0, 1, 0, 0, 1]) (hdSt [(0, ap 0), (2, ap 2), (7, ap 0), (8, ai x8), (9, al (.bool x9))] [(0, 85, [.row .kept (.int .u8) s0_0, ii x1001, ik .u64 x1002]), (2, 36, [ii x727000, ii x727001])])) := by
    intro kk
    induction kk with
    | zero => (intros; rename_i H; cases H)
    | succ kk ih =>
    have i0 := ih
    intros; rename_i H; simp only [spec_l01DrawEnd.j0] at H; refine go _ _ ?_; exact run_
  have i0 := fun kk => (hs kk)
  simp only [spec_l01DrawEnd.f] at H; refine go _ _ ?_; exact run_
theorem spec_l05End.sem {k : Nat} {s0_0 : List Int} {s0_1 : Int} {s0_2 : Int} {a1 : Int} {a2_0 : Int} {a2_1 : Int} {a2_2 : Int} {r1 : Int} {r2 : Int} {r3 : Int} {r4 : Int} (H : spec_l05End.f k s0_0 s0_1 s0_2 a1 a2_0 a2_1 a2_2 = some (r1, r2, r3, r4)) :
    CSem Try.prog Vs 46 [.ref 85 [.row .kept (.int .u8) s0_0, ii s0_1, ik .u64 s0_2], .lf (ii a1), .agg [ii a2_0, ii a2_1, ii a2_2]] [.agg [ii r1, ii r2]] [[.row .kept (.int .u8) s0_0, ii r3, ik .u64 r4]] := by
  have c0_ := @spec_l01Next.sem
  have c1_ := @spec_l01Is.sem
  have c2_ := @spec_l01Power.sem
  have c3_ := @spec_l01DrawEnd.sem
  have c4_ := @spec_l01EndOf.sem
  refine fs_ Try.f46 ?_
  intro G go sub
  have hs : ∀ kk : Nat, (∀ (x1 : Int) (x20 : Bool) (x1001 x1002 x782000 x782001 x782002 x783000 x783001 : Int) (H : spec_l05End.j0 kk x1 x20 s0_0 x1001 x1002 x782000 x782001 x782002 = some (r1, r2, r3, r4)), G (contAt Try.f46 [1, 0, 0]) (hdSt [(0, ap 0), (1, ai x1), (5, ap 5), (6, ap 6), (20, al (.bool x20))] [(0, 85, [.row .kept (.int .u8) s0_0, ii x1001, ik .u64 x1002]), (5, 28, [ii x782000, ii x782001, ii x782002]), (6, 36, [ii x783000, ii x783001])])) ∧ (∀ (x7 x8 x1001 x1002 x783000 x783001 : Int) (H : spec_l05End.j1 kk x7 x8 s0_0 x1001 x1002 = some (r1, r2, r3, r4)), G (contAt Try.f46 [1, 1, 1, 0, 1, 1]) (hdSt [(0, ap 0), (6, ap 6), (7, ai x7), (8, ai x8), (31, ap 0)] [(0, 85, [.row .kept (.int .u8) s0_0, ii x1001, ik .u64 x1002]), (6, 36, [ii x783000, ii x783001])])) := by
    intro kk
    induction kk with
    | zero => refine ⟨?_, ?_⟩ <;> (intros; rename_i H; cases H)
    | succ kk ih =>
    obtain ⟨i0, i1⟩ := ih
    refine ⟨?_, ?_⟩
    · intros; rename_i H; simp only [spec_l05End.j0] at H; refine go _ _ ?_; exact run_
    · intros; rename_i H; simp only [spec_l05End.j1] at H; refine go _ _ ?_; exact run_
  have i0 := fun kk => (hs kk).1
  have i1 := fun kk => (hs kk).2
  simp only [spec_l05End.f] at H; refine go _ _ ?_; exact run_
theorem spec_DrawSideHas.sem {k : Nat} {l0 : List Int} {r1 : Int} {r2 : Int} {r3 : Int} {r4 : Int} {r5 : Bool} {r6 : Int} {r7 : Int} (H : spec_DrawSideHas.f k l0 = some (r1, r2, r3, r4, r5, r6, r7)) :
    CSem Try.prog Vs 14 [.lf (.row .kept (.int .u8) l0)] [.lf (ii r1), .agg [ii r2, ii r3, ii r4, .bool r5], .agg [ii r6, ii r7]] [] := by
  have k0_ := @spec_l01From.sem
  have c0_ := @spec_l01Pick.sem
  have c1_ := @spec_l09Side.sem
  have c2_ := @spec_l05End.sem
  refine fs_ Try.f14 ?_
  intro G go sub
  simp only [spec_DrawSideHas.f] at H; refine go _ _ ?_; exact run_
theorem spec_l01End.sem {k : Nat} {a0_0 : Int} {a0_1 : Int} {r : Bool} (H : spec_l01End.f k a0_0 a0_1 = some r) :
    CSem Try.prog Vs 47 [.agg [ii a0_0, ii a0_1]] [.lf (.bool r)] [] := by
  have c0_ := @spec_l01In.sem
  have c1_ := @spec_l01Gcd.sem
  refine fs_ Try.f47 ?_
  intro G go sub
  simp only [spec_l01End.f] at H; refine go _ _ ?_; exact run_
theorem spec_l02Meet.sem {k : Nat} {a0 : Int} {a1_0 : Int} {a1_1 : Int} {a1_2 : Int} {a2_0 : Int} {a2_1 : Int} {r : Int} (H : spec_l02Meet.f k a0 a1_0 a1_1 a1_2 a2_0 a2_1 = some r) :
    CSem Try.prog Vs 78 [.lf (ii a0), .agg [ii a1_0, ii a1_1, ii a1_2], .agg [ii a2_0, ii a2_1]] [.lf (ii r)] [] := by
  have c0_ := @spec_l01Power.sem
  have c1_ := @spec_l01Val.sem
  refine fs_ Try.f78 ?_
  intro G go sub
  simp only [spec_l02Meet.f] at H; refine go _ _ ?_; exact run_
end Go.Proofs.Ytghebmhlbhmgeaa.QS
