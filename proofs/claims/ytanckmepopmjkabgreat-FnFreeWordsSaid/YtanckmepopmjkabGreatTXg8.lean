/- The functions' contracts, by the evaluator. No condition. -/
import Derived.Test.YtanckmepopmjkabGreatTXg7
set_option linter.unusedVariables false
set_option linter.unusedSimpArgs false
set_option maxRecDepth 100000
set_option maxHeartbeats 4000000
namespace Go.Proofs.YtanckmepopmjkabGreat.QW
open Go.RowKit Go.Proofs.YtanckmepopmjkabGreatW.PrintWords Go.Proofs.YtanckmepopmjkabGreatW.PrintLast Go.Proofs.YtanckmepopmjkabGreatW.PrintMore Go.Tx
theorem spec_l09Letter.sem {k : Nat} {l0 : List (S47)} {a1 : Int} {r1 : Int} {r2 : Int} {r3 : Int} {r4 : Int} (H : spec_l09Letter.f k l0 a1 = some (r1, r2, r3, r4)) :
    CSem Tryz.prog Vs 41 [.lf (.row .lent (.nam 1) l0), .lf (ii a1)] [.agg [ii r1, ii r2, ii r3, ii r4]] [] := by
  have c0_ := @spec_l04Inverse.sem
  refine fs_ Tryz.f41 ?_
  intro G go sub seal_
  simp only [spec_l09Letter.f] at H; refine go _ _ ?_; exact run_
theorem spec_SideOfWord.sem {k : Nat} {a0 : Int} {l1 : List (S47)} {l2 : List (S32)} {l3 : List Int} {r1 : Int} {r2 : Int} {r3 : Int} {r4 : Bool} {r5 : Int} (H : spec_SideOfWord.f k a0 l1 l2 l3 = some (r1, r2, r3, r4, r5)) :
    CSem Tryz.prog Vs 7 [.lf (ii a0), .lf (.row .lent (.nam 1) l1), .lf (.row .lent (.nam 3) l2), .lf (.row .lent (.int .i64) l3)] [.agg [ii r1, ii r2, ii r3, .bool r4], .lf (ii r5)] [] := by
  have c0_ := @spec_l09List.sem
  have c1_ := @spec_l09Word.sem
  have c2_ := @spec_l09Ready.sem
  have c3_ := @spec_l09Short.sem
  have c4_ := @spec_l09Of.sem
  have c5_ := @spec_l09Move.sem
  have c6_ := @spec_l09Letter.sem
  refine fs_ Tryz.f7 ?_
  intro G go sub seal_
  have hs : ∀ kk : Nat, (∀ (x0 : Int) (x1 : List (S47)) (x2 : List (S32)) (x3 : List Int) (x45 : Bool) (x694000 x694001 x694002 : Int) (x694003 : Bool) (H : spec_SideOfWord.j0 kk x0 x1 x2 x3 x45 = some (r1, r2, r3, r4, r5)), G (contAt Tryz.f7 [1, 1, 1, 1, 0, 0]) (hdSt [(0, ai x0), (1, al (.row .lent (.nam 1) x1)), (2, al (.row .lent (.nam 3) x2)), (3, al (.row .lent (.int .i64) x3)), (8, ap 8), (45, al (.bool x45))] [(8, 32, [ii x694000, ii x694001, ii x694002, .bool x694003])])) ∧ (∀ (x0 : Int) (x1 : List (S47)) (x3 : List Int) (x13 x694000 x694001 x694002 : Int) (x694003 : Bool) (x704000 x704001 x704002 : Int) (x704003 : Bool) (H : spec_SideOfWord.l0 kk x0 x1 x3 x13 x704000 x704001 x704002 x704003 = some (r1, r2, r3, r4, r5)), G (loopAt Tryz.f7 [1, 1, 1, 1, 1, 1, 0, 1, 0]) (hdSt [(0, ai x0), (1, al (.row .lent (.nam 1) x1)), (3, al (.row .lent (.int .i64) x3)), (8, ap 8), (12, ap 12), (13, ai x13)] [(8, 32, [ii x694000, ii x694001, ii x694002, .bool x694003]), (12, 32, [ii x704000, ii x704001, ii x704002, .bool x704003])])) := by
    intro kk
    induction kk with
    | zero => refine ⟨?_, ?_⟩ <;> (intros; rename_i H; cases H)
    | succ kk ih =>
    obtain ⟨i0, i1⟩ := ih
    refine ⟨?_, ?_⟩
    · intros; rename_i H; simp only [spec_SideOfWord.j0] at H; refine go _ _ ?_; exact run_
    · intros; rename_i H; simp only [spec_SideOfWord.l0] at H; refine go _ _ ?_; exact run_
  have i0 := fun kk => (hs kk).1
  have i1 := fun kk => (hs kk).2
  simp only [spec_SideOfWord.f] at H; refine go _ _ ?_; exact run_
theorem impl_AreApartSides.sem {k : Nat} {a0 : Int} {a1_0 : Int} {a1_1 : Int} {a1_2 : Int} {a1_3 : Bool} {a2_0 : Int} {a2_1 : Int} {a2_2 : Int} {a2_3 : Bool} {r1 : Bool} {r2 : Int} (H : impl_AreApartSides.f k a0 a1_0 a1_1 a1_2 a1_3 a2_0 a2_1 a2_2 a2_3 = some (r1, r2)) :
    CSem Tryz.prog Vs 8 [.lf (ii a0), .agg [ii a1_0, ii a1_1, ii a1_2, .bool a1_3], .agg [ii a2_0, ii a2_1, ii a2_2, .bool a2_3]] [.lf (.bool r1), .lf (ii r2)] [] := by
  have c0_ := @impl_areSides.sem
  have c1_ := @impl_apartSides.sem
  refine fs_ Tryz.f8 ?_
  intro G go sub seal_
  simp only [impl_AreApartSides.f] at H; refine go _ _ ?_; exact run_
theorem spec_l01EndOf.sem {k : Nat} {a0 : Int} {a1 : Int} {r1 : Int} {r2 : Int} {r3 : Bool} (H : spec_l01EndOf.f k a0 a1 = some (r1, r2, r3)) :
    CSem Tryz.prog Vs 85 [.lf (ii a0), .lf (ii a1)] [.agg [ii r1, ii r2], .lf (.bool r3)] [] := by
  have c0_ := @spec_l01Gcd.sem
  refine fs_ Tryz.f85 ?_
  intro G go sub seal_
  simp only [spec_l01EndOf.f] at H; refine go _ _ ?_; exact run_
theorem spec_l05Small.sem {k : Nat} {s0_0 : List Int} {s0_1 : Int} {s0_2 : Int} {r1 : Int} {r2 : Int} {r3 : Int} {r4 : Int} (H : spec_l05Small.f k s0_0 s0_1 s0_2 = some (r1, r2, r3, r4)) :
    CSem Tryz.prog Vs 44 [.ref 94 [.row .kept (.int .u8) s0_0, ii s0_1, ik .u64 s0_2]] [.agg [ii r1, ii r2]] [[.row .kept (.int .u8) s0_0, ii r3, ik .u64 r4]] := by
  have c0_ := @spec_l01Next.sem
  have c1_ := @spec_l01Pick.sem
  have c2_ := @spec_l01EndOf.sem
  refine fs_ Tryz.f44 ?_
  intro G go sub seal_
  simp only [spec_l05Small.f] at H; refine go _ _ ?_; exact run_
theorem spec_l04End.sem {k : Nat} {a0_0 : Int} {a0_1 : Int} {a0_2 : Int} {a0_3 : Int} {a1_0 : Int} {a1_1 : Int} {r1 : Int} {r2 : Int} {r3 : Bool} (H : spec_l04End.f k a0_0 a0_1 a0_2 a0_3 a1_0 a1_1 = some (r1, r2, r3)) :
    CSem Tryz.prog Vs 46 [.agg [ii a0_0, ii a0_1, ii a0_2, ii a0_3], .agg [ii a1_0, ii a1_1]] [.agg [ii r1, ii r2], .lf (.bool r3)] [] := by
  have c0_ := @spec_l01EndOf.sem
  refine fs_ Tryz.f46 ?_
  intro G go sub seal_
  simp only [spec_l04End.f] at H; refine go _ _ ?_; exact run_
theorem spec_DrawBringOut.sem {k : Nat} {l0 : List Int} {r1 : Int} {r2 : List (S47)} {r3 : List (S32)} {r4 : Int} {r5 : Int} (H : spec_DrawBringOut.f k l0 = some (r1, r2, r3, r4, r5)) :
    CSem Tryz.prog Vs 9 [.lf (.row .kept (.int .u8) l0)] [.lf (ii r1), .own 47 (.nam 1) r2, .lf (.row .made (.nam 3) r3), .agg [ii r4, ii r5]] [] := by
  have k0_ := @spec_l01From.sem
  have c0_ := @spec_l09Movers.sem
  have c1_ := @spec_l05Small.sem
  have c2_ := @spec_l01Next.sem
  have c3_ := @spec_l04End.sem
  refine fs_ Tryz.f9 ?_
  intro G go sub seal_
  have q0_ := fun k s => seal_ k s 9
  have hs : ∀ kk : Nat, (∀ (x7 : Int) (x8 : List (S47)) (x9 : List (S32)) (x11 x750000 x750001 : Int) (x754000 : List Int) (x754001 x754002 x768000 x768001 : Int) (H : spec_DrawBringOut.l0 kk x7 x8 x9 x11 x754000 x754001 x754002 x768000 x768001 = some (r1, r2, r3, r4, r5)), G (loopAt Tryz.f9 [1, 1, 1, 1, 0, 1, 0]) (hdSt [(3, .av (.f .nil)), (4, .av (.f .nil)), (5, ap 5), (6, ap 1144), (7, ai x7), (8, .own 8 47 (.nam 1) x8), (9, al (.row .made (.nam 3) x9)), (10, ap 10), (11, ai x11), (15, ap 1144), (17, ap 1144), (22, ap 1144), (24, ap 1144)] [(5, 38, [ii x750000, ii x750001]), (1144, 94, [.row .kept (.int .u8) x754000, ii x754001, ik .u64 x754002]), (10, 38, [ii x768000, ii x768001])])) := by
    intro kk
    induction kk with
    | zero => (intros; rename_i H; cases H)
    | succ kk ih =>
    have i0 := ih
    intros; rename_i H; simp only [spec_DrawBringOut.l0] at H; refine go _ _ ?_; exact run_
  have i0 := fun kk => (hs kk)
  simp only [spec_DrawBringOut.f] at H; refine go _ _ ?_; exact run_
theorem impl_IsEnd.sem {k : Nat} {a0_0 : Int} {a0_1 : Int} {r : Bool} (H : impl_IsEnd.f k a0_0 a0_1 = some r) :
    CSem Tryz.prog Vs 47 [.agg [ii a0_0, ii a0_1]] [.lf (.bool r)] [] := by
  have c0_ := @impl_within.sem
  have c1_ := @impl_gcd.sem
  refine fs_ Tryz.f47 ?_
  intro G go sub seal_
  simp only [impl_IsEnd.f] at H; refine go _ _ ?_; exact run_
theorem impl_nearness.sem {k : Nat} {a0 : Int} {a1_0 : Int} {a1_1 : Int} {a1_2 : Int} {a2 : Int} {a3 : Int} {r : Int} (H : impl_nearness.f k a0 a1_0 a1_1 a1_2 a2 a3 = some r) :
    CSem Tryz.prog Vs 112 [.lf (ii a0), .agg [ii a1_0, ii a1_1, ii a1_2], .lf (ii a2), .lf (ii a3)] [.lf (ii r)] [] := by
  have c0_ := @impl_power.sem
  have c1_ := @impl_mark.sem
  have c2_ := @impl_valuation.sem
  refine fs_ Tryz.f112 ?_
  intro G go sub seal_
  simp only [impl_nearness.f] at H; refine go _ _ ?_; exact run_
theorem impl_held.sem {k : Nat} {a0 : Int} {a1_0 : Int} {a1_1 : Int} {a1_2 : Int} {a2_0 : Int} {a2_1 : Int} {r : Bool} (H : impl_held.f k a0 a1_0 a1_1 a1_2 a2_0 a2_1 = some r) :
    CSem Tryz.prog Vs 107 [.lf (ii a0), .agg [ii a1_0, ii a1_1, ii a1_2], .agg [ii a2_0, ii a2_1]] [.lf (.bool r)] [] := by
  have c0_ := @impl_nearness.sem
  refine fs_ Tryz.f107 ?_
  intro G go sub seal_
  simp only [impl_held.f] at H; refine go _ _ ?_; exact run_
theorem impl_sideHas.sem {k : Nat} {a0 : Int} {a1_0 : Int} {a1_1 : Int} {a1_2 : Int} {a1_3 : Bool} {a2_0 : Int} {a2_1 : Int} {r : Bool} (H : impl_sideHas.f k a0 a1_0 a1_1 a1_2 a1_3 a2_0 a2_1 = some r) :
    CSem Tryz.prog Vs 87 [.lf (ii a0), .agg [ii a1_0, ii a1_1, ii a1_2, .bool a1_3], .agg [ii a2_0, ii a2_1]] [.lf (.bool r)] [] := by
  have c0_ := @impl_held.sem
  refine fs_ Tryz.f87 ?_
  intro G go sub seal_
  simp only [impl_sideHas.f] at H; refine go _ _ ?_; exact run_
end Go.Proofs.YtanckmepopmjkabGreat.QW
