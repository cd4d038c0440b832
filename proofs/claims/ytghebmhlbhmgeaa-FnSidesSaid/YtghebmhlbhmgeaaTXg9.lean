/- The functions' contracts, by the evaluator. No condition. -/
import Derived.Test.YtghebmhlbhmgeaaTXg8
set_option linter.unusedVariables false
set_option linter.unusedSimpArgs false
set_option maxRecDepth 100000
set_option maxHeartbeats 4000000
namespace Go.Proofs.Ytghebmhlbhmgeaa.QS
open Go.RowKit Go.Proofs.YtghebmhlbhmgeaaW.PrintWords Go.Proofs.YtghebmhlbhmgeaaW.PrintLast Go.Proofs.YtghebmhlbhmgeaaW.PrintMore Go.Tx
theorem spec_l09Has.sem {k : Nat} {a0 : Int} {a1_0 : Int} {a1_1 : Int} {a1_2 : Int} {a1_3 : Bool} {a2_0 : Int} {a2_1 : Int} {r : Bool} (H : spec_l09Has.f k a0 a1_0 a1_1 a1_2 a1_3 a2_0 a2_1 = some r) :
    CSem Try.prog Vs 48 [.lf (ii a0), .agg [ii a1_0, ii a1_1, ii a1_2, .bool a1_3], .agg [ii a2_0, ii a2_1]] [.lf (.bool r)] [] := by
  have c0_ := @spec_l02Meet.sem
  refine fs_ Try.f48 ?_
  intro G go sub
  simp only [spec_l09Has.f] at H; refine go _ _ ?_; exact run_
theorem spec_SideHas.sem {k : Nat} {a0 : Int} {a1_0 : Int} {a1_1 : Int} {a1_2 : Int} {a1_3 : Bool} {a2_0 : Int} {a2_1 : Int} {r1 : Bool} {r2 : Int} (H : spec_SideHas.f k a0 a1_0 a1_1 a1_2 a1_3 a2_0 a2_1 = some (r1, r2)) :
    CSem Try.prog Vs 15 [.lf (ii a0), .agg [ii a1_0, ii a1_1, ii a1_2, .bool a1_3], .agg [ii a2_0, ii a2_1]] [.lf (.bool r1), .lf (ii r2)] [] := by
  have c0_ := @spec_l09Code.sem
  have c1_ := @spec_l01End.sem
  have c2_ := @spec_l09Has.sem
  refine fs_ Try.f15 ?_
  intro G go sub
  simp only [spec_SideHas.f] at H; refine go _ _ ?_; exact run_
theorem spec_DrawAreApartSides.sem {k : Nat} {l0 : List Int} {r1 : Int} {r2 : Int} {r3 : Int} {r4 : Int} {r5 : Bool} {r6 : Int} {r7 : Int} {r8 : Int} {r9 : Bool} (H : spec_DrawAreApartSides.f k l0 = some (r1, r2, r3, r4, r5, r6, r7, r8, r9)) :
    CSem Try.prog Vs 16 [.lf (.row .kept (.int .u8) l0)] [.lf (ii r1), .agg [ii r2, ii r3, ii r4, .bool r5], .agg [ii r6, ii r7, ii r8, .bool r9]] [] := by
  have k0_ := @spec_l01From.sem
  have c0_ := @spec_l01Next.sem
  have k1_ := @spec_l01Two.sem
  refine fs_ Try.f16 ?_
  intro G go sub
  simp only [spec_DrawAreApartSides.f] at H; refine go _ _ ?_; exact run_
theorem impl_AreApartSides.sem {k : Nat} {a0 : Int} {a1_0 : Int} {a1_1 : Int} {a1_2 : Int} {a1_3 : Bool} {a2_0 : Int} {a2_1 : Int} {a2_2 : Int} {a2_3 : Bool} {r1 : Bool} {r2 : Int} (H : impl_AreApartSides.f k a0 a1_0 a1_1 a1_2 a1_3 a2_0 a2_1 a2_2 a2_3 = some (r1, r2)) :
    CSem Try.prog Vs 17 [.lf (ii a0), .agg [ii a1_0, ii a1_1, ii a1_2, .bool a1_3], .agg [ii a2_0, ii a2_1, ii a2_2, .bool a2_3]] [.lf (.bool r1), .lf (ii r2)] [] := by
  have c0_ := @impl_areSides.sem
  have c1_ := @impl_apartSides.sem
  refine fs_ Try.f17 ?_
  intro G go sub
  simp only [impl_AreApartSides.f] at H; refine go _ _ ?_; exact run_
theorem spec_l09Apart.sem {k : Nat} {a0 : Int} {a1_0 : Int} {a1_1 : Int} {a1_2 : Int} {a1_3 : Bool} {a2_0 : Int} {a2_1 : Int} {a2_2 : Int} {a2_3 : Bool} {r : Bool} (H : spec_l09Apart.f k a0 a1_0 a1_1 a1_2 a1_3 a2_0 a2_1 a2_2 a2_3 = some r) :
    CSem Try.prog Vs 50 [.lf (ii a0), .agg [ii a1_0, ii a1_1, ii a1_2, .bool a1_3], .agg [ii a2_0, ii a2_1, ii a2_2, .bool a2_3]] [.lf (.bool r)] [] := by
  have c0_ := @spec_l01Holds.sem
  refine fs_ Try.f50 ?_
  intro G go sub
  have hs : ∀ kk : Nat, (∀ (x0 : Int) (x7 : Bool) (x885000 x885001 x885002 : Int) (x885003 : Bool) (x886000 x886001 x886002 : Int) (x886003 : Bool) (H : spec_l09Apart.j0 kk x0 x7 x885000 x885001 x885002 x885003 x886000 x886001 x886002 x886003 = some r), G (contAt Try.f50 [1, 0, 0, 0]) (hdSt [(0, ai x0), (4, ap 4), (5, ap 5), (7, al (.bool x7))] [(4, 30, [ii x885000, ii x885001, ii x885002, .bool x885003]), (5, 30, [ii x886000, ii x886001, ii x886002, .bool x886003])])) := by
    intro kk
    induction kk with
    | zero => (intros; rename_i H; cases H)
    | succ kk ih =>
    have i0 := ih
    intros; rename_i H; simp only [spec_l09Apart.j0] at H; refine go _ _ ?_; exact run_
  have i0 := fun kk => (hs kk)
  simp only [spec_l09Apart.f] at H; refine go _ _ ?_; exact run_
theorem spec_AreApartSides.sem {k : Nat} {a0 : Int} {a1_0 : Int} {a1_1 : Int} {a1_2 : Int} {a1_3 : Bool} {a2_0 : Int} {a2_1 : Int} {a2_2 : Int} {a2_3 : Bool} {r1 : Bool} {r2 : Int} (H : spec_AreApartSides.f k a0 a1_0 a1_1 a1_2 a1_3 a2_0 a2_1 a2_2 a2_3 = some (r1, r2)) :
    CSem Try.prog Vs 18 [.lf (ii a0), .agg [ii a1_0, ii a1_1, ii a1_2, .bool a1_3], .agg [ii a2_0, ii a2_1, ii a2_2, .bool a2_3]] [.lf (.bool r1), .lf (ii r2)] [] := by
  have c0_ := @spec_l09Code.sem
  have c1_ := @spec_l09Apart.sem
  refine fs_ Try.f18 ?_
  intro G go sub
  simp only [spec_AreApartSides.f] at H; refine go _ _ ?_; exact run_
end Go.Proofs.Ytghebmhlbhmgeaa.QS
