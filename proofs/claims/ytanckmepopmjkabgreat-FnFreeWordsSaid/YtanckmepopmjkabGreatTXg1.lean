/- The functions' contracts, by the evaluator. No condition. -/
import Derived.Test.YtanckmepopmjkabGreatTXg
set_option linter.unusedVariables false
set_option linter.unusedSimpArgs false
set_option maxRecDepth 100000
set_option maxHeartbeats 4000000
namespace Go.Proofs.YtanckmepopmjkabGreat.QW
open Go.RowKit Go.Proofs.YtanckmepopmjkabGreatW.PrintWords Go.Proofs.YtanckmepopmjkabGreatW.PrintLast Go.Proofs.YtanckmepopmjkabGreatW.PrintMore Go.Tx
theorem spec_l04Draw.sem {k : Nat} {s0_0 : List Int} {s0_1 : Int} {s0_2 : Int} {r1 : Int} {r2 : Int} {r3 : Int} {r4 : Int} {r5 : Int} {r6 : Int} (H : spec_l04Draw.f k s0_0 s0_1 s0_2 = some (r1, r2, r3, r4, r5, r6)) :
    CSem Tryz.prog Vs 68 [.ref 94 [.row .kept (.int .u8) s0_0, ii s0_1, ik .u64 s0_2]] [.agg [ii r1, ii r2, ii r3, ii r4]] [[.row .kept (.int .u8) s0_0, ii r5, ik .u64 r6]] := by
  have c0_ := @spec_l01Next.sem
  have c1_ := @spec_l01Pick.sem
  have c2_ := @spec_l04Det.sem
  refine fs_ Tryz.f68 ?_
  intro G go sub seal_
  have hs : ∀ kk : Nat, (∀ (x1001 x1002 x130000 x130001 x130002 x130003 x131000 x131001 x131002 x131003 : Int) (H : spec_l04Draw.j2 kk s0_0 x1001 x1002 x131000 x131001 x131002 x131003 = some (r1, r2, r3, r4, r5, r6)), G (contAt Tryz.f68 [1, 1, 0, 1]) (hdSt [(0, ap 0), (2, ap 2), (3, ap 3)] [(0, 94, [.row .kept (.int .u8) s0_0, ii x1001, ik .u64 x1002]), (2, 47, [ii x130000, ii x130001, ii x130002, ii x130003]), (3, 47, [ii x131000, ii x131001, ii x131002, ii x131003])])) ∧ (∀ (x1001 x1002 x130000 x130001 x130002 x130003 x131000 x131001 x131002 x131003 : Int) (H : spec_l04Draw.j3 kk s0_0 x1001 x1002 x131000 x131001 x131002 x131003 = some (r1, r2, r3, r4, r5, r6)), G (contAt Tryz.f68 [1, 1, 1, 0, 1]) (hdSt [(0, ap 0), (2, ap 2), (3, ap 3), (27, ap 0)] [(0, 94, [.row .kept (.int .u8) s0_0, ii x1001, ik .u64 x1002]), (2, 47, [ii x130000, ii x130001, ii x130002, ii x130003]), (3, 47, [ii x131000, ii x131001, ii x131002, ii x131003])])) ∧ (∀ (x4 x1001 x1002 x130000 x130001 x130002 x130003 x131000 x131001 x131002 x131003 : Int) (H : spec_l04Draw.l0 kk x4 s0_0 x1001 x1002 x131000 x131001 x131002 x131003 = some (r1, r2, r3, r4, r5, r6)), G (loopAt Tryz.f68 [1, 1, 0, 1, 0]) (hdSt [(0, ap 0), (2, ap 2), (3, ap 3), (4, ai x4)] [(0, 94, [.row .kept (.int .u8) s0_0, ii x1001, ik .u64 x1002]), (2, 47, [ii x130000, ii x130001, ii x130002, ii x130003]), (3, 47, [ii x131000, ii x131001, ii x131002, ii x131003])])) ∧ (∀ (x4 x5 x1001 x1002 x130000 x130001 x130002 x130003 x131000 x131001 x131002 x131003 : Int) (H : spec_l04Draw.l1 kk x4 x5 s0_0 x1001 x1002 x131000 x131001 x131002 x131003 = some (r1, r2, r3, r4, r5, r6)), G (loopAt Tryz.f68 [1, 1, 0, 1, 0, 0, 1, 0, 0, 0, 1, 0]) (hdSt [(0, ap 0), (2, ap 2), (3, ap 3), (4, ai x4), (5, ai x5)] [(0, 94, [.row .kept (.int .u8) s0_0, ii x1001, ik .u64 x1002]), (2, 47, [ii x130000, ii x130001, ii x130002, ii x130003]), (3, 47, [ii x131000, ii x131001, ii x131002, ii x131003])])) := by
    intro kk
    induction kk with
    | zero => refine ⟨?_, ?_, ?_, ?_⟩ <;> (intros; rename_i H; cases H)
    | succ kk ih =>
    obtain ⟨i0, i1, i2, i3⟩ := ih
    refine ⟨?_, ?_, ?_, ?_⟩
    · intros; rename_i H; simp only [spec_l04Draw.j2] at H; refine go _ _ ?_; exact run_
    · intros; rename_i H; simp only [spec_l04Draw.j3] at H; refine go _ _ ?_; exact run_
    · intros; rename_i H; simp only [spec_l04Draw.l0] at H; refine go _ _ ?_; exact run_
    · intros; rename_i H; simp only [spec_l04Draw.l1] at H; refine go _ _ ?_; exact run_
  have i0 := fun kk => (hs kk).1
  have i1 := fun kk => (hs kk).2.1
  have i2 := fun kk => (hs kk).2.2.1
  have i3 := fun kk => (hs kk).2.2.2
  simp only [spec_l04Draw.f] at H; refine go _ _ ?_; exact run_
theorem spec_l01Bad.sem {s0_0 : List Int} {s0_1 : Int} {s0_2 : Int} {a1_0 : Int} {a1_1 : Int} {a1_2 : Int} {r1 : Int} {r2 : Int} {r3 : Int} {r4 : Int} {r5 : Int} (H : spec_l01Bad.f s0_0 s0_1 s0_2 a1_0 a1_1 a1_2 = some (r1, r2, r3, r4, r5)) :
    CSem Tryz.prog Vs 95 [.ref 94 [.row .kept (.int .u8) s0_0, ii s0_1, ik .u64 s0_2], .agg [ii a1_0, ii a1_1, ii a1_2]] [.agg [ii r1, ii r2, ii r3]] [[.row .kept (.int .u8) s0_0, ii r4, ik .u64 r5]] := by
  have c0_ := @spec_l01Next.sem
  have c1_ := @spec_l01Pick.sem
  refine fs_ Tryz.f95 ?_
  intro G go sub seal_
  simp only [spec_l01Bad.f] at H; refine go _ _ ?_; exact run_
theorem spec_l01Val.sem {k : Nat} {a0 : Int} {a1 : Int} {r : Int} (H : spec_l01Val.f k a0 a1 = some r) :
    CSem Tryz.prog Vs 78 [.lf (ii a0), .lf (ii a1)] [.lf (ii r)] [] := by
  refine fs_ Tryz.f78 ?_
  intro G go sub seal_
  have hs : ∀ kk : Nat, (∀ (x0 x1 x5 : Int) (H : spec_l01Val.l0 kk x0 x1 x5 = some r), G (loopAt Tryz.f78 [1, 1, 0, 0]) (hdSt [(0, ai x0), (1, ai x1), (5, ai x5)] [])) := by
    intro kk
    induction kk with
    | zero => (intros; rename_i H; cases H)
    | succ kk ih =>
    have i0 := ih
    intros; rename_i H; simp only [spec_l01Val.l0] at H; refine go _ _ ?_; exact run_
  have i0 := fun kk => (hs kk)
  simp only [spec_l01Val.f] at H; refine go _ _ ?_; exact run_
theorem spec_l01MulMod.sem {a0 : Int} {a1 : Int} {a2 : Int} {r : Int} (H : spec_l01MulMod.f a0 a1 a2 = some r) :
    CSem Tryz.prog Vs 105 [.lf (ii a0), .lf (ii a1), .lf (ii a2)] [.lf (ii r)] [] := by
  refine fs_ Tryz.f105 ?_
  intro G go sub seal_
  simp only [spec_l01MulMod.f] at H; refine go _ _ ?_; exact run_
theorem spec_l01InvMod.sem {k : Nat} {a0 : Int} {a1 : Int} {r : Int} (H : spec_l01InvMod.f k a0 a1 = some r) :
    CSem Tryz.prog Vs 106 [.lf (ii a0), .lf (ii a1)] [.lf (ii r)] [] := by
  refine fs_ Tryz.f106 ?_
  intro G go sub seal_
  have hs : ∀ kk : Nat, (∀ (x1 x5 x6 x7 x8 : Int) (H : spec_l01InvMod.l0 kk x1 x5 x6 x7 x8 = some r), G (loopAt Tryz.f106 [1, 1, 0, 0]) (hdSt [(1, ai x1), (5, ai x5), (6, ai x6), (7, ai x7), (8, ai x8)] [])) := by
    intro kk
    induction kk with
    | zero => (intros; rename_i H; cases H)
    | succ kk ih =>
    have i0 := ih
    intros; rename_i H; simp only [spec_l01InvMod.l0] at H; refine go _ _ ?_; exact run_
  have i0 := fun kk => (hs kk)
  simp only [spec_l01InvMod.f] at H; refine go _ _ ?_; exact run_
theorem spec_l01Of.sem {k : Nat} {a0 : Int} {a1 : Int} {a2 : Int} {a3 : Int} {r1 : Int} {r2 : Int} {r3 : Int} {r4 : Bool} (H : spec_l01Of.f k a0 a1 a2 a3 = some (r1, r2, r3, r4)) :
    CSem Tryz.prog Vs 79 [.lf (ii a0), .lf (ii a1), .lf (ii a2), .lf (ii a3)] [.agg [ii r1, ii r2, ii r3], .lf (.bool r4)] [] := by
  have c0_ := @spec_l01In.sem
  have c1_ := @spec_l01Power.sem
  have c2_ := @spec_l01Val.sem
  have c3_ := @spec_l01MulMod.sem
  have c4_ := @spec_l01InvMod.sem
  refine fs_ Tryz.f79 ?_
  intro G go sub seal_
  simp only [spec_l01Of.f] at H; refine go _ _ ?_; exact run_
theorem spec_l01Draw.sem {k : Nat} {s0_0 : List Int} {s0_1 : Int} {s0_2 : Int} {a1 : Int} {r1 : Int} {r2 : Int} {r3 : Int} {r4 : Int} {r5 : Int} (H : spec_l01Draw.f k s0_0 s0_1 s0_2 a1 = some (r1, r2, r3, r4, r5)) :
    CSem Tryz.prog Vs 96 [.ref 94 [.row .kept (.int .u8) s0_0, ii s0_1, ik .u64 s0_2], .lf (ii a1)] [.agg [ii r1, ii r2, ii r3]] [[.row .kept (.int .u8) s0_0, ii r4, ik .u64 r5]] := by
  have c0_ := @spec_l01Next.sem
  have c1_ := @spec_l01Power.sem
  have c2_ := @spec_l01Pick.sem
  have c3_ := @spec_l01Of.sem
  refine fs_ Tryz.f96 ?_
  intro G go sub seal_
  simp only [spec_l01Draw.f] at H; refine go _ _ ?_; exact run_
theorem spec_l09Side.sem {k : Nat} {s0_0 : List Int} {s0_1 : Int} {s0_2 : Int} {a1 : Int} {r1 : Int} {r2 : Int} {r3 : Int} {r4 : Bool} {r5 : Int} {r6 : Int} (H : spec_l09Side.f k s0_0 s0_1 s0_2 a1 = some (r1, r2, r3, r4, r5, r6)) :
    CSem Tryz.prog Vs 69 [.ref 94 [.row .kept (.int .u8) s0_0, ii s0_1, ik .u64 s0_2], .lf (ii a1)] [.agg [ii r1, ii r2, ii r3, .bool r4]] [[.row .kept (.int .u8) s0_0, ii r5, ik .u64 r6]] := by
  have c0_ := @spec_l01Next.sem
  have c1_ := @spec_l01Bad.sem
  have c2_ := @spec_l01Draw.sem
  refine fs_ Tryz.f69 ?_
  intro G go sub seal_
  simp only [spec_l09Side.f] at H; refine go _ _ ?_; exact run_
end Go.Proofs.YtanckmepopmjkabGreat.QW
