/- The functions' contracts, by the evaluator. No condition. -/
import Derived.Test.YtanckmepopmjkabGreatTX0
set_option linter.unusedVariables false
set_option linter.unusedSimpArgs false
set_option maxRecDepth 100000
set_option maxHeartbeats 4000000
namespace Go.Proofs.YtanckmepopmjkabGreat.QW
open Go.RowKit Go.Proofs.YtanckmepopmjkabGreatW.PrintWords Go.Proofs.YtanckmepopmjkabGreatW.PrintLast Go.Proofs.YtanckmepopmjkabGreatW.PrintMore Go.Tx
theorem laws_big.sem {l0 : List Int} {r : Bool} (H : laws_big.f l0 = some r) :
    CSem Tryz.prog Vs 4 [.lf (.row .lent (.int .u8) l0)] [.lf (.bool r)] [] := by
  refine fs_ Tryz.f4 ?_
  intro G go sub seal_
  simp only [laws_big.f] at H; refine go _ _ ?_; exact run_
theorem spec_l01From.sem {k : Nat} {l0 : List Int} {r1 : List Int} {r2 : Int} {r3 : Int} (H : spec_l01From.f k l0 = some (r1, r2, r3)) :
    CSem Tryz.prog Vs 26 [.lf (.row .kept (.int .u8) l0)] [.ref 94 [.row .kept (.int .u8) r1, ii r2, ik .u64 r3]] [] := by
  refine fs_ Tryz.f26 ?_
  intro G go sub seal_
  have hs : ∀ kk : Nat, (∀ (x0 : List Int) (x4 : Int) (x102000 : List Int) (x102001 x102002 : Int) (H : spec_l01From.l0 kk x0 x4 x102000 x102001 x102002 = some (r1, r2, r3)), G (loopAt Tryz.f26 [1, 1, 0, 1, 0]) (hdSt [(0, al (.row .kept (.int .u8) x0)), (2, .av (.f .nilp)), (3, ap 11), (4, ai x4), (11, ap 11)] [(11, 94, [.row .kept (.int .u8) x102000, ii x102001, ik .u64 x102002])])) := by
    intro kk
    induction kk with
    | zero => (intros; rename_i H; cases H)
    | succ kk ih =>
    have i0 := ih
    intros; rename_i H; simp only [spec_l01From.l0] at H; refine go _ _ ?_; exact run_
  have i0 := fun kk => (hs kk)
  simp only [spec_l01From.f] at H; refine go _ _ ?_; exact run_
theorem spec_l01Next.sem {s0_0 : List Int} {s0_1 : Int} {s0_2 : Int} {a1 : Int} {r1 : Int} {r2 : Int} {r3 : Int} (H : spec_l01Next.f s0_0 s0_1 s0_2 a1 = some (r1, r2, r3)) :
    CSem Tryz.prog Vs 45 [.ref 94 [.row .kept (.int .u8) s0_0, ii s0_1, ik .u64 s0_2], .lf (ii a1)] [.lf (ii r1)] [[.row .kept (.int .u8) s0_0, ii r2, ik .u64 r3]] := by
  refine fs_ Tryz.f45 ?_
  intro G go sub seal_
  simp only [spec_l01Next.f] at H; refine go _ _ ?_; exact run_
theorem spec_l01Pick.sem {s0_0 : List Int} {s0_1 : Int} {s0_2 : Int} {l1 : List Int} {r1 : Int} {r2 : Int} {r3 : Int} (H : spec_l01Pick.f s0_0 s0_1 s0_2 l1 = some (r1, r2, r3)) :
    CSem Tryz.prog Vs 66 [.ref 94 [.row .kept (.int .u8) s0_0, ii s0_1, ik .u64 s0_2], .lf (.row .lent (.int .i64) l1)] [.lf (ii r1)] [[.row .kept (.int .u8) s0_0, ii r2, ik .u64 r3]] := by
  have c0_ := @spec_l01Next.sem
  refine fs_ Tryz.f66 ?_
  intro G go sub seal_
  simp only [spec_l01Pick.f] at H; refine go _ _ ?_; exact run_
theorem spec_l01In.sem {a0 : Int} {a1 : Int} {a2 : Int} {r : Bool} (H : spec_l01In.f a0 a1 a2 = some r) :
    CSem Tryz.prog Vs 62 [.lf (ii a0), .lf (ii a1), .lf (ii a2)] [.lf (.bool r)] [] := by
  refine fs_ Tryz.f62 ?_
  intro G go sub seal_
  simp only [spec_l01In.f] at H; refine go _ _ ?_; exact run_
theorem spec_l01Power.sem {k : Nat} {a0 : Int} {a1 : Int} {r : Int} (H : spec_l01Power.f k a0 a1 = some r) :
    CSem Tryz.prog Vs 63 [.lf (ii a0), .lf (ii a1)] [.lf (ii r)] [] := by
  refine fs_ Tryz.f63 ?_
  intro G go sub seal_
  have hs : ∀ kk : Nat, (∀ (x0 x1 x5 : Int) (H : spec_l01Power.l0 kk x0 x1 x5 = some r), G (loopAt Tryz.f63 [1, 1, 0, 0]) (hdSt [(0, ai x0), (1, ai x1), (5, ai x5)] [])) := by
    intro kk
    induction kk with
    | zero => (intros; rename_i H; cases H)
    | succ kk ih =>
    have i0 := ih
    intros; rename_i H; simp only [spec_l01Power.l0] at H; refine go _ _ ?_; exact run_
  have i0 := fun kk => (hs kk)
  simp only [spec_l01Power.f] at H; refine go _ _ ?_; exact run_
theorem spec_l01Gcd.sem {k : Nat} {a0 : Int} {a1 : Int} {r : Int} (H : spec_l01Gcd.f k a0 a1 = some r) :
    CSem Tryz.prog Vs 89 [.lf (ii a0), .lf (ii a1)] [.lf (ii r)] [] := by
  refine fs_ Tryz.f89 ?_
  intro G go sub seal_
  have hs : ∀ kk : Nat, (∀ (x0 x1 : Int) (H : spec_l01Gcd.l0 kk x0 x1 = some r), G (loopAt Tryz.f89 [1, 0, 0]) (hdSt [(0, ai x0), (1, ai x1)] [])) := by
    intro kk
    induction kk with
    | zero => (intros; rename_i H; cases H)
    | succ kk ih =>
    have i0 := ih
    intros; rename_i H; simp only [spec_l01Gcd.l0] at H; refine go _ _ ?_; exact run_
  have i0 := fun kk => (hs kk)
  simp only [spec_l01Gcd.f] at H; refine go _ _ ?_; exact run_
theorem spec_l09Paired.sem {k : Nat} {a0 : Int} {a1_0 : Int} {a1_1 : Int} {a1_2 : Int} {a2_0 : Int} {a2_1 : Int} {a2_2 : Int} {r1 : Int} {r2 : Int} {r3 : Int} {r4 : Int} {r5 : Bool} (H : spec_l09Paired.f k a0 a1_0 a1_1 a1_2 a2_0 a2_1 a2_2 = some (r1, r2, r3, r4, r5)) :
    CSem Tryz.prog Vs 67 [.lf (ii a0), .agg [ii a1_0, ii a1_1, ii a1_2], .agg [ii a2_0, ii a2_1, ii a2_2]] [.agg [ii r1, ii r2, ii r3, ii r4], .lf (.bool r5)] [] := by
  have c0_ := @spec_l01In.sem
  have c1_ := @spec_l01Power.sem
  have c2_ := @spec_l01Gcd.sem
  refine fs_ Tryz.f67 ?_
  intro G go sub seal_
  have hs : ∀ kk : Nat, (∀ (x0 x8 : Int) (x43 : Bool) (x109000 x109001 x109002 x110000 x110001 x110002 x111000 x111001 x111002 x111003 : Int) (H : spec_l09Paired.j0 kk x0 x8 x43 x109000 x109001 x109002 x110000 x110001 x110002 = some (r1, r2, r3, r4, r5)), G (contAt Tryz.f67 [1, 1, 0, 0]) (hdSt [(0, ai x0), (4, ap 4), (5, ap 5), (6, ap 6), (8, ai x8), (43, al (.bool x43))] [(4, 30, [ii x109000, ii x109001, ii x109002]), (5, 30, [ii x110000, ii x110001, ii x110002]), (6, 47, [ii x111000, ii x111001, ii x111002, ii x111003])])) ∧ (∀ (x14 x15 x111000 x111001 x111002 x111003 x116000 x116001 x116002 x116003 : Int) (H : spec_l09Paired.l0 kk x14 x15 x116000 x116001 x116002 x116003 = some (r1, r2, r3, r4, r5)), G (loopAt Tryz.f67 [1, 1, 1, 1, 1, 1, 0, 1, 0]) (hdSt [(6, ap 6), (13, ap 13), (14, ai x14), (15, ai x15)] [(6, 47, [ii x111000, ii x111001, ii x111002, ii x111003]), (13, 111, [ii x116000, ii x116001, ii x116002, ii x116003])])) ∧ (∀ (x14 x111000 x111001 x111002 x111003 x116000 x116001 x116002 x116003 : Int) (H : spec_l09Paired.j3 kk x14 x116000 x116001 x116002 x116003 = some (r1, r2, r3, r4, r5)), G (contAt Tryz.f67 [1, 1, 1, 1, 1, 1, 1, 0, 1]) (hdSt [(6, ap 6), (13, ap 13), (14, ai x14)] [(6, 47, [ii x111000, ii x111001, ii x111002, ii x111003]), (13, 111, [ii x116000, ii x116001, ii x116002, ii x116003])])) ∧ (∀ (x14 x17 x111000 x111001 x111002 x111003 x116000 x116001 x116002 x116003 : Int) (H : spec_l09Paired.l2 kk x14 x17 x116000 x116001 x116002 x116003 = some (r1, r2, r3, r4, r5)), G (loopAt Tryz.f67 [1, 1, 1, 1, 1, 1, 1, 1, 0, 1, 0]) (hdSt [(6, ap 6), (13, ap 13), (14, ai x14), (17, ai x17)] [(6, 47, [ii x111000, ii x111001, ii x111002, ii x111003]), (13, 111, [ii x116000, ii x116001, ii x116002, ii x116003])])) ∧ (∀ (x14 x16 x111000 x111001 x111002 x111003 x116000 x116001 x116002 x116003 : Int) (H : spec_l09Paired.l1 kk x14 x16 x116000 x116001 x116002 x116003 = some (r1, r2, r3, r4, r5)), G (loopAt Tryz.f67 [1, 1, 1, 1, 1, 1, 1, 0, 1, 0]) (hdSt [(6, ap 6), (13, ap 13), (14, ai x14), (16, ai x16)] [(6, 47, [ii x111000, ii x111001, ii x111002, ii x111003]), (13, 111, [ii x116000, ii x116001, ii x116002, ii x116003])])) := by
    intro kk
    induction kk with
    | zero => refine ⟨?_, ?_, ?_, ?_, ?_⟩ <;> (intros; rename_i H; cases H)
    | succ kk ih =>
    obtain ⟨i0, i1, i2, i3, i4⟩ := ih
    refine ⟨?_, ?_, ?_, ?_, ?_⟩
    · intros; rename_i H; simp only [spec_l09Paired.j0] at H; refine go _ _ ?_; exact run_
    · intros; rename_i H; simp only [spec_l09Paired.l0] at H; refine go _ _ ?_; exact run_
    · intros; rename_i H; simp only [spec_l09Paired.j3] at H; refine go _ _ ?_; exact run_
    · intros; rename_i H; simp only [spec_l09Paired.l2] at H; refine go _ _ ?_; exact run_
    · intros; rename_i H; simp only [spec_l09Paired.l1] at H; refine go _ _ ?_; exact run_
  have i0 := fun kk => (hs kk).1
  have i1 := fun kk => (hs kk).2.1
  have i2 := fun kk => (hs kk).2.2.1
  have i3 := fun kk => (hs kk).2.2.2.1
  have i4 := fun kk => (hs kk).2.2.2.2
  simp only [spec_l09Paired.f] at H; refine go _ _ ?_; exact run_
theorem spec_l04Det.sem {a0_0 : Int} {a0_1 : Int} {a0_2 : Int} {a0_3 : Int} {r : Int} (H : spec_l04Det.f a0_0 a0_1 a0_2 a0_3 = some r) :
    CSem Tryz.prog Vs 93 [.agg [ii a0_0, ii a0_1, ii a0_2, ii a0_3]] [.lf (ii r)] [] := by
  refine fs_ Tryz.f93 ?_
  intro G go sub seal_
  simp only [spec_l04Det.f] at H; refine go _ _ ?_; exact run_
end Go.Proofs.YtanckmepopmjkabGreat.QW
