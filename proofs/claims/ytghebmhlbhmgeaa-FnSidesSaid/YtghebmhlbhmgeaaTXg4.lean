/- The functions' contracts, by the evaluator. No condition. -/
import Derived.Test.YtghebmhlbhmgeaaTXg3
set_option linter.unusedVariables false
set_option linter.unusedSimpArgs false
set_option maxRecDepth 100000
set_option maxHeartbeats 4000000
namespace Go.Proofs.Ytghebmhlbhmgeaa.QS
open Go.RowKit Go.Proofs.YtghebmhlbhmgeaaW.PrintWords Go.Proofs.YtghebmhlbhmgeaaW.PrintLast Go.Proofs.YtghebmhlbhmgeaaW.PrintMore Go.Tx
theorem spec_MoveSide.sem {k : Nat} {a0 : Int} {a1_0 : Int} {a1_1 : Int} {a1_2 : Int} {a1_3 : Int} {a2_0 : Int} {a2_1 : Int} {a2_2 : Int} {a2_3 : Bool} {r1 : Int} {r2 : Int} {r3 : Int} {r4 : Bool} {r5 : Int} (H : spec_MoveSide.f k a0 a1_0 a1_1 a1_2 a1_3 a2_0 a2_1 a2_2 a2_3 = some (r1, r2, r3, r4, r5)) :
    CSem Try.prog Vs 7 [.lf (ii a0), .agg [ii a1_0, ii a1_1, ii a1_2, ii a1_3], .agg [ii a2_0, ii a2_1, ii a2_2, .bool a2_3]] [.agg [ii r1, ii r2, ii r3, .bool r4], .lf (ii r5)] [] := by
  have c0_ := @spec_l09Code.sem
  have c1_ := @spec_l04Is.sem
  have c2_ := @spec_l09Move.sem
  refine fs_ Try.f7 ?_
  intro G go sub
  have hs : ∀ kk : Nat, (∀ (x0 : Int) (x19 : Bool) (x390000 x390001 x390002 x390003 x391000 x391001 x391002 : Int) (x391003 : Bool) (x392000 x392001 x392002 : Int) (x392003 : Bool) (H : spec_MoveSide.j0 kk x0 x19 x390000 x390001 x390002 x390003 x391000 x391001 x391002 x391003 = some (r1, r2, r3, r4, r5)), G (contAt Try.f7 [1, 0, 0]) (hdSt [(0, ai x0), (4, ap 4), (5, ap 5), (6, ap 6), (19, al (.bool x19))] [(4, 26, [ii x390000, ii x390001, ii x390002, ii x390003]), (5, 30, [ii x391000, ii x391001, ii x391002, .bool x391003]), (6, 30, [ii x392000, ii x392001, ii x392002, .bool x392003])])) := by
    intro kk
    induction kk with
    | zero => (intros; rename_i H; cases H)
    | succ kk ih =>
    have i0 := ih
    intros; rename_i H; simp only [spec_MoveSide.j0] at H; refine go _ _ ?_; exact run_
  have i0 := fun kk => (hs kk)
  simp only [spec_MoveSide.f] at H; refine go _ _ ?_; exact run_
theorem impl_gcd.sem {k : Nat} {a0 : Int} {a1 : Int} {r : Int} (H : impl_gcd.f k a0 a1 = some r) :
    CSem Try.prog Vs 65 [.lf (ii a0), .lf (ii a1)] [.lf (ii r)] [] := by
  refine fs_ Try.f65 ?_
  intro G go sub
  have hs : ∀ kk : Nat, (∀ (x0 x1 : Int) (H : impl_gcd.l0 kk x0 x1 = some r), G (loopAt Try.f65 [1, 0, 0]) (hdSt [(0, ai x0), (1, ai x1)] [])) := by
    intro kk
    induction kk with
    | zero => (intros; rename_i H; cases H)
    | succ kk ih =>
    have i0 := ih
    intros; rename_i H; simp only [impl_gcd.l0] at H; refine go _ _ ?_; exact run_
  have i0 := fun kk => (hs kk)
  simp only [impl_gcd.f] at H; refine go _ _ ?_; exact run_
theorem impl_IsEnd.sem {k : Nat} {a0_0 : Int} {a0_1 : Int} {r : Bool} (H : impl_IsEnd.f k a0_0 a0_1 = some r) :
    CSem Try.prog Vs 29 [.agg [ii a0_0, ii a0_1]] [.lf (.bool r)] [] := by
  have c0_ := @impl_within.sem
  have c1_ := @impl_gcd.sem
  refine fs_ Try.f29 ?_
  intro G go sub
  simp only [impl_IsEnd.f] at H; refine go _ _ ?_; exact run_
theorem impl_fittedEnd.sem {a0_0 : Int} {a0_1 : Int} {a1 : Bool} {r1 : Int} {r2 : Int} {r3 : Int} (H : impl_fittedEnd.f a0_0 a0_1 a1 = some (r1, r2, r3)) :
    CSem Try.prog Vs 30 [.agg [ii a0_0, ii a0_1], .lf (.bool a1)] [.agg [ii r1, ii r2], .lf (ii r3)] [] := by
  refine fs_ Try.f30 ?_
  intro G go sub
  simp only [impl_fittedEnd.f] at H; refine go _ _ ?_; exact run_
theorem impl_endAt.sem {k : Nat} {a0 : Int} {a1 : Int} {r1 : Int} {r2 : Int} {r3 : Bool} (H : impl_endAt.f k a0 a1 = some (r1, r2, r3)) :
    CSem Try.prog Vs 66 [.lf (ii a0), .lf (ii a1)] [.agg [ii r1, ii r2], .lf (.bool r3)] [] := by
  have c0_ := @impl_IsEnd.sem
  have c1_ := @impl_gcd.sem
  refine fs_ Try.f66 ?_
  intro G go sub
  simp only [impl_endAt.f] at H; refine go _ _ ?_; exact run_
theorem impl_moveEnd.sem {k : Nat} {a0_0 : Int} {a0_1 : Int} {a0_2 : Int} {a0_3 : Int} {a1_0 : Int} {a1_1 : Int} {r1 : Int} {r2 : Int} {r3 : Bool} (H : impl_moveEnd.f k a0_0 a0_1 a0_2 a0_3 a1_0 a1_1 = some (r1, r2, r3)) :
    CSem Try.prog Vs 31 [.agg [ii a0_0, ii a0_1, ii a0_2, ii a0_3], .agg [ii a1_0, ii a1_1]] [.agg [ii r1, ii r2], .lf (.bool r3)] [] := by
  have c0_ := @impl_endAt.sem
  refine fs_ Try.f31 ?_
  intro G go sub
  simp only [impl_moveEnd.f] at H; refine go _ _ ?_; exact run_
theorem impl_MoveEnd.sem {k : Nat} {a0_0 : Int} {a0_1 : Int} {a0_2 : Int} {a0_3 : Int} {a1_0 : Int} {a1_1 : Int} {r1 : Int} {r2 : Int} {r3 : Int} (H : impl_MoveEnd.f k a0_0 a0_1 a0_2 a0_3 a1_0 a1_1 = some (r1, r2, r3)) :
    CSem Try.prog Vs 8 [.agg [ii a0_0, ii a0_1, ii a0_2, ii a0_3], .agg [ii a1_0, ii a1_1]] [.agg [ii r1, ii r2], .lf (ii r3)] [] := by
  have c0_ := @impl_IsMatrix.sem
  have c1_ := @impl_IsEnd.sem
  have c2_ := @impl_fittedEnd.sem
  have c3_ := @impl_moveEnd.sem
  refine fs_ Try.f8 ?_
  intro G go sub
  have hs : ∀ kk : Nat, (∀ (x13 : Bool) (x424000 x424001 x424002 x424003 x425000 x425001 x426000 x426001 : Int) (H : impl_MoveEnd.j0 kk x13 x424000 x424001 x424002 x424003 x425000 x425001 = some (r1, r2, r3)), G (contAt Try.f8 [1, 0, 0]) (hdSt [(2, ap 2), (3, ap 3), (4, ap 4), (13, al (.bool x13))] [(2, 26, [ii x424000, ii x424001, ii x424002, ii x424003]), (3, 36, [ii x425000, ii x425001]), (4, 36, [ii x426000, ii x426001])])) := by
    intro kk
    induction kk with
    | zero => (intros; rename_i H; cases H)
    | succ kk ih =>
    have i0 := ih
    intros; rename_i H; simp only [impl_MoveEnd.j0] at H; refine go _ _ ?_; exact run_
  have i0 := fun kk => (hs kk)
  simp only [impl_MoveEnd.f] at H; refine go _ _ ?_; exact run_
theorem impl_nearness.sem {k : Nat} {a0 : Int} {a1_0 : Int} {a1_1 : Int} {a1_2 : Int} {a2 : Int} {a3 : Int} {r : Int} (H : impl_nearness.f k a0 a1_0 a1_1 a1_2 a2 a3 = some r) :
    CSem Try.prog Vs 84 [.lf (ii a0), .agg [ii a1_0, ii a1_1, ii a1_2], .lf (ii a2), .lf (ii a3)] [.lf (ii r)] [] := by
  have c0_ := @impl_power.sem
  have c1_ := @impl_mark.sem
  have c2_ := @impl_valuation.sem
  refine fs_ Try.f84 ?_
  intro G go sub
  simp only [impl_nearness.f] at H; refine go _ _ ?_; exact run_
theorem impl_held.sem {k : Nat} {a0 : Int} {a1_0 : Int} {a1_1 : Int} {a1_2 : Int} {a2_0 : Int} {a2_1 : Int} {r : Bool} (H : impl_held.f k a0 a1_0 a1_1 a1_2 a2_0 a2_1 = some r) :
    CSem Try.prog Vs 67 [.lf (ii a0), .agg [ii a1_0, ii a1_1, ii a1_2], .agg [ii a2_0, ii a2_1]] [.lf (.bool r)] [] := by
  have c0_ := @impl_nearness.sem
  refine fs_ Try.f67 ?_
  intro G go sub
  simp only [impl_held.f] at H; refine go _ _ ?_; exact run_
theorem impl_sideHas.sem {k : Nat} {a0 : Int} {a1_0 : Int} {a1_1 : Int} {a1_2 : Int} {a1_3 : Bool} {a2_0 : Int} {a2_1 : Int} {r : Bool} (H : impl_sideHas.f k a0 a1_0 a1_1 a1_2 a1_3 a2_0 a2_1 = some r) :
    CSem Try.prog Vs 32 [.lf (ii a0), .agg [ii a1_0, ii a1_1, ii a1_2, .bool a1_3], .agg [ii a2_0, ii a2_1]] [.lf (.bool r)] [] := by
  have c0_ := @impl_held.sem
  refine fs_ Try.f32 ?_
  intro G go sub
  simp only [impl_sideHas.f] at H; refine go _ _ ?_; exact run_
theorem impl_SideHas.sem {k : Nat} {a0 : Int} {a1_0 : Int} {a1_1 : Int} {a1_2 : Int} {a1_3 : Bool} {a2_0 : Int} {a2_1 : Int} {r1 : Bool} {r2 : Int} (H : impl_SideHas.f k a0 a1_0 a1_1 a1_2 a1_3 a2_0 a2_1 = some (r1, r2)) :
    CSem Try.prog Vs 9 [.lf (ii a0), .agg [ii a1_0, ii a1_1, ii a1_2, .bool a1_3], .agg [ii a2_0, ii a2_1]] [.lf (.bool r1), .lf (ii r2)] [] := by
  have c0_ := @impl_areSides.sem
  have c1_ := @impl_IsEnd.sem
  have c2_ := @impl_sideHas.sem
  refine fs_ Try.f9 ?_
  intro G go sub
  simp only [impl_SideHas.f] at H; refine go _ _ ?_; exact run_
theorem spec_l01DrawPrime.sem {s0_0 : List Int} {s0_1 : Int} {s0_2 : Int} {r1 : Int} {r2 : Int} {r3 : Int} (H : spec_l01DrawPrime.f s0_0 s0_1 s0_2 = some (r1, r2, r3)) :
    CSem Try.prog Vs 85 [.ref 85 [.row .kept (.int .u8) s0_0, ii s0_1, ik .u64 s0_2]] [.lf (ii r1)] [[.row .kept (.int .u8) s0_0, ii r2, ik .u64 r3]] := by
  have c0_ := @spec_l01Pick.sem
  refine fs_ Try.f85 ?_
  intro G go sub
  simp only [spec_l01DrawPrime.f] at H; refine go _ _ ?_; exact run_
theorem spec_l01Spoil.sem {k : Nat} {s0_0 : List Int} {s0_1 : Int} {s0_2 : Int} {r1 : Int} {r2 : Int} {r3 : Int} {r4 : Int} {r5 : Int} {r6 : Int} (H : spec_l01Spoil.f k s0_0 s0_1 s0_2 = some (r1, r2, r3, r4, r5, r6)) :
    CSem Try.prog Vs 68 [.ref 85 [.row .kept (.int .u8) s0_0, ii s0_1, ik .u64 s0_2]] [.lf (ii r1), .agg [ii r2, ii r3, ii r4]] [[.row .kept (.int .u8) s0_0, ii r5, ik .u64 r6]] := by
  have c0_ := @spec_l01Pick.sem
  have c1_ := @spec_l01Next.sem
  have c2_ := @spec_l01Bad.sem
  have c3_ := @spec_l01Draw.sem
  have c4_ := @spec_l01DrawPrime.sem
  refine fs_ Try.f68 ?_
  intro G go sub
  simp only [spec_l01Spoil.f] at H; refine go _ _ ?_; exact run_
theorem spec_l01Parent.sem {k : Nat} {a0 : Int} {a1_0 : Int} {a1_1 : Int} {a1_2 : Int} {r1 : Int} {r2 : Int} {r3 : Int} {r4 : Bool} (H : spec_l01Parent.f k a0 a1_0 a1_1 a1_2 = some (r1, r2, r3, r4)) :
    CSem Try.prog Vs 69 [.lf (ii a0), .agg [ii a1_0, ii a1_1, ii a1_2]] [.agg [ii r1, ii r2, ii r3], .lf (.bool r4)] [] := by
  have c0_ := @spec_l01Of.sem
  have c1_ := @spec_l01Power.sem
  refine fs_ Try.f69 ?_
  intro G go sub
  simp only [spec_l01Parent.f] at H; refine go _ _ ?_; exact run_
end Go.Proofs.Ytghebmhlbhmgeaa.QS
