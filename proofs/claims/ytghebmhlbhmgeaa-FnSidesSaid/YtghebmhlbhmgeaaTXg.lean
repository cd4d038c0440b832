/- The functions' contracts, by the evaluator. No condition. -/
import Derived.Test.YtghebmhlbhmgeaaTX0
set_option linter.unusedVariables false
set_option linter.unusedSimpArgs false
set_option maxRecDepth 100000
set_option maxHeartbeats 4000000
namespace Go.Proofs.Ytghebmhlbhmgeaa.QS
open Go.RowKit Go.Proofs.YtghebmhlbhmgeaaW.PrintWords Go.Proofs.YtghebmhlbhmgeaaW.PrintLast Go.Proofs.YtghebmhlbhmgeaaW.PrintMore Go.Tx
theorem laws_big.sem {l0 : List Int} {r : Bool} (H : laws_big.f l0 = some r) :
    CSem Try.prog Vs 4 [.lf (.row .lent (.int .u8) l0)] [.lf (.bool r)] [] := by
  refine fs_ Try.f4 ?_
  intro G go sub
  simp only [laws_big.f] at H; refine go _ _ ?_; exact run_
theorem spec_l01From.sem {k : Nat} {l0 : List Int} {r1 : List Int} {r2 : Int} {r3 : Int} (H : spec_l01From.f k l0 = some (r1, r2, r3)) :
    CSem Try.prog Vs 19 [.lf (.row .kept (.int .u8) l0)] [.ref 85 [.row .kept (.int .u8) r1, ii r2, ik .u64 r3]] [] := by
  refine fs_ Try.f19 ?_
  intro G go sub
  have hs : ∀ kk : Nat, (∀ (x0 : List Int) (x4 : Int) (x102000 : List Int) (x102001 x102002 : Int) (H : spec_l01From.l0 kk x0 x4 x102000 x102001 x102002 = some (r1, r2, r3)), G (loopAt Try.f19 [1, 1, 0, 1, 0]) (hdSt [(0, al (.row .kept (.int .u8) x0)), (2, .av (.f .nilp)), (3, ap 11), (4, ai x4), (11, ap 11)] [(11, 85, [.row .kept (.int .u8) x102000, ii x102001, ik .u64 x102002])])) := by
    intro kk
    induction kk with
    | zero => (intros; rename_i H; cases H)
    | succ kk ih =>
    have i0 := ih
    intros; rename_i H; simp only [spec_l01From.l0] at H; refine go _ _ ?_; exact run_
  have i0 := fun kk => (hs kk)
  simp only [spec_l01From.f] at H; refine go _ _ ?_; exact run_
theorem spec_l01Next.sem {s0_0 : List Int} {s0_1 : Int} {s0_2 : Int} {a1 : Int} {r1 : Int} {r2 : Int} {r3 : Int} (H : spec_l01Next.f s0_0 s0_1 s0_2 a1 = some (r1, r2, r3)) :
    CSem Try.prog Vs 33 [.ref 85 [.row .kept (.int .u8) s0_0, ii s0_1, ik .u64 s0_2], .lf (ii a1)] [.lf (ii r1)] [[.row .kept (.int .u8) s0_0, ii r2, ik .u64 r3]] := by
  refine fs_ Try.f33 ?_
  intro G go sub
  simp only [spec_l01Next.f] at H; refine go _ _ ?_; exact run_
theorem spec_l01Pick.sem {s0_0 : List Int} {s0_1 : Int} {s0_2 : Int} {l1 : List Int} {r1 : Int} {r2 : Int} {r3 : Int} (H : spec_l01Pick.f s0_0 s0_1 s0_2 l1 = some (r1, r2, r3)) :
    CSem Try.prog Vs 20 [.ref 85 [.row .kept (.int .u8) s0_0, ii s0_1, ik .u64 s0_2], .lf (.row .lent (.int .i64) l1)] [.lf (ii r1)] [[.row .kept (.int .u8) s0_0, ii r2, ik .u64 r3]] := by
  have c0_ := @spec_l01Next.sem
  refine fs_ Try.f20 ?_
  intro G go sub
  simp only [spec_l01Pick.f] at H; refine go _ _ ?_; exact run_
theorem spec_l04Det.sem {a0_0 : Int} {a0_1 : Int} {a0_2 : Int} {a0_3 : Int} {r : Int} (H : spec_l04Det.f a0_0 a0_1 a0_2 a0_3 = some r) :
    CSem Try.prog Vs 51 [.agg [ii a0_0, ii a0_1, ii a0_2, ii a0_3]] [.lf (ii r)] [] := by
  refine fs_ Try.f51 ?_
  intro G go sub
  simp only [spec_l04Det.f] at H; refine go _ _ ?_; exact run_
theorem spec_l04Draw.sem {k : Nat} {s0_0 : List Int} {s0_1 : Int} {s0_2 : Int} {r1 : Int} {r2 : Int} {r3 : Int} {r4 : Int} {r5 : Int} {r6 : Int} (H : spec_l04Draw.f k s0_0 s0_1 s0_2 = some (r1, r2, r3, r4, r5, r6)) :
    CSem Try.prog Vs 21 [.ref 85 [.row .kept (.int .u8) s0_0, ii s0_1, ik .u64 s0_2]] [.agg [ii r1, ii r2, ii r3, ii r4]] [[.row .kept (.int .u8) s0_0, ii r5, ik .u64 r6]] := by
  have c0_ := @spec_l01Pick.sem
  have c1_ := @spec_l01Next.sem
  have c2_ := @spec_l04Det.sem
  refine fs_ Try.f21 ?_
  intro G go sub
  have hs : ∀ kk : Nat, (∀ (x1001 x1002 x110000 x110001 x110002 x110003 x111000 x111001 x111002 x111003 : Int) (H : spec_l04Draw.j2 kk s0_0 x1001 x1002 x111000 x111001 x111002 x111003 = some (r1, r2, r3, r4, r5, r6)), G (contAt Try.f21 [1, 1, 0, 1]) (hdSt [(0, ap 0), (2, ap 2), (3, ap 3)] [(0, 85, [.row .kept (.int .u8) s0_0, ii x1001, ik .u64 x1002]), (2, 26, [ii x110000, ii x110001, ii x110002, ii x110003]), (3, 26, [ii x111000, ii x111001, ii x111002, ii x111003])])) ∧ (∀ (x1001 x1002 x110000 x110001 x110002 x110003 x111000 x111001 x111002 x111003 : Int) (H : spec_l04Draw.j3 kk s0_0 x1001 x1002 x111000 x111001 x111002 x111003 = some (r1, r2, r3, r4, r5, r6)), G (contAt Try.f21 [1, 1, 1, 0, 1]) (hdSt [(0, ap 0), (2, ap 2), (3, ap 3), (27, ap 0)] [(0, 85, [.row .kept (.int .u8) s0_0, ii x1001, ik .u64 x1002]), (2, 26, [ii x110000, ii x110001, ii x110002, ii x110003]), (3, 26, [ii x111000, ii x111001, ii x111002, ii x111003])])) ∧ (∀ (x4 x1001 x1002 x110000 x110001 x110002 x110003 x111000 x111001 x111002 x111003 : Int) (H : spec_l04Draw.l0 kk x4 s0_0 x1001 x1002 x111000 x111001 x111002 x111003 = some (r1, r2, r3, r4, r5, r6)), G (loopAt Try.f21 [1, 1, 0, 1, 0]) (hdSt [(0, ap 0), (2, ap 2), (3, ap 3), (4, ai x4)] [(0, 85, [.row .kept (.int .u8) s0_0, ii x1001, ik .u64 x1002]), (2, 26, [ii x110000, ii x110001, ii x110002, ii x110003]), (3, 26, [ii x111000, ii x111001, ii x111002, ii x111003])])) ∧ (∀ (x4 x5 x1001 x1002 x110000 x110001 x110002 x110003 x111000 x111001 x111002 x111003 : Int) (H : spec_l04Draw.l1 kk x4 x5 s0_0 x1001 x1002 x111000 x111001 x111002 x111003 = some (r1, r2, r3, r4, r5, r6)), G (loopAt Try.f21 [1, 1, 0, 1, 0, 0, 1, 0, 0, 0, 1, 0]) (hdSt [(0, ap 0), (2, ap 2), (3, ap 3), (4, ai x4), (5, ai x5)] [(0, 85, [.row .kept (.int .u8) s0_0, ii x1001, ik .u64 x1002]), (2, 26, [ii x110000, ii x110001, ii x110002, ii x110003]), (3, 26, [ii x111000, ii x111001, ii x111002, ii x111003])])) := by
    intro kk
    induction kk with
    | zero => refine ⟨?_, ?_, ?_, ?_⟩ <;> (intros; rename_i H; cases H)
    | succ kk ih =>
    obtain ⟨i0, i1, i2, i3⟩ := ih
    refine ⟨?_, ?_, ?_, ?_⟩
    · intros; rename_i H; simp only [spec_l04Draw.j2] at H; refine go _ _ ?_; exact run_
    · intros; rename_i H; simp only [spec_l04Draw.j3] at H; refine go _ _ ?_; exact run_
    · intros; rename_i H; simp only [spec_l04Draw.l0] at H; refine go _ _ ?_; exact run_
    · intros; rename_i H; simp only [spec_l04Draw.l1] at H; refine go _ _ ?_; exact run_
  have i0 := fun kk => (hs kk).1
  have i1 := fun kk => (hs kk).2.1
  have i2 := fun kk => (hs kk).2.2.1
  have i3 := fun kk => (hs kk).2.2.2
  simp only [spec_l04Draw.f] at H; refine go _ _ ?_; exact run_
theorem spec_l01Bad.sem {s0_0 : List Int} {s0_1 : Int} {s0_2 : Int} {a1_0 : Int} {a1_1 : Int} {a1_2 : Int} {r1 : Int} {r2 : Int} {r3 : Int} {r4 : Int} {r5 : Int} (H : spec_l01Bad.f s0_0 s0_1 s0_2 a1_0 a1_1 a1_2 = some (r1, r2, r3, r4, r5)) :
    CSem Try.prog Vs 52 [.ref 85 [.row .kept (.int .u8) s0_0, ii s0_1, ik .u64 s0_2], .agg [ii a1_0, ii a1_1, ii a1_2]] [.agg [ii r1, ii r2, ii r3]] [[.row .kept (.int .u8) s0_0, ii r4, ik .u64 r5]] := by
  have c0_ := @spec_l01Pick.sem
  have c1_ := @spec_l01Next.sem
  refine fs_ Try.f52 ?_
  intro G go sub
  simp only [spec_l01Bad.f] at H; refine go _ _ ?_; exact run_
theorem spec_l01In.sem {a0 : Int} {a1 : Int} {a2 : Int} {r : Bool} (H : spec_l01In.f a0 a1 a2 = some r) :
    CSem Try.prog Vs 62 [.lf (ii a0), .lf (ii a1), .lf (ii a2)] [.lf (.bool r)] [] := by
  refine fs_ Try.f62 ?_
  intro G go sub
  simp only [spec_l01In.f] at H; refine go _ _ ?_; exact run_
theorem spec_l01Power.sem {k : Nat} {a0 : Int} {a1 : Int} {r : Int} (H : spec_l01Power.f k a0 a1 = some r) :
    CSem Try.prog Vs 63 [.lf (ii a0), .lf (ii a1)] [.lf (ii r)] [] := by
  refine fs_ Try.f63 ?_
  intro G go sub
  have hs : ∀ kk : Nat, (∀ (x0 x1 x5 : Int) (H : spec_l01Power.l0 kk x0 x1 x5 = some r), G (loopAt Try.f63 [1, 1, 0, 0]) (hdSt [(0, ai x0), (1, ai x1), (5, ai x5)] [])) := by
    intro kk
    induction kk with
    | zero => (intros; rename_i H; cases H)
    | succ kk ih =>
    have i0 := ih
    intros; rename_i H; simp only [spec_l01Power.l0] at H; refine go _ _ ?_; exact run_
  have i0 := fun kk => (hs kk)
  simp only [spec_l01Power.f] at H; refine go _ _ ?_; exact run_
theorem spec_l01Val.sem {k : Nat} {a0 : Int} {a1 : Int} {r : Int} (H : spec_l01Val.f k a0 a1 = some r) :
    CSem Try.prog Vs 64 [.lf (ii a0), .lf (ii a1)] [.lf (ii r)] [] := by
  refine fs_ Try.f64 ?_
  intro G go sub
  have hs : ∀ kk : Nat, (∀ (x0 x1 x5 : Int) (H : spec_l01Val.l0 kk x0 x1 x5 = some r), G (loopAt Try.f64 [1, 1, 0, 0]) (hdSt [(0, ai x0), (1, ai x1), (5, ai x5)] [])) := by
    intro kk
    induction kk with
    | zero => (intros; rename_i H; cases H)
    | succ kk ih =>
    have i0 := ih
    intros; rename_i H; simp only [spec_l01Val.l0] at H; refine go _ _ ?_; exact run_
  have i0 := fun kk => (hs kk)
  simp only [spec_l01Val.f] at H; refine go _ _ ?_; exact run_
theorem spec_l01MulMod.sem {a0 : Int} {a1 : Int} {a2 : Int} {r : Int} (H : spec_l01MulMod.f a0 a1 a2 = some r) :
    CSem Try.prog Vs 70 [.lf (ii a0), .lf (ii a1), .lf (ii a2)] [.lf (ii r)] [] := by
  refine fs_ Try.f70 ?_
  intro G go sub
  simp only [spec_l01MulMod.f] at H; refine go _ _ ?_; exact run_
end Go.Proofs.Ytghebmhlbhmgeaa.QS
