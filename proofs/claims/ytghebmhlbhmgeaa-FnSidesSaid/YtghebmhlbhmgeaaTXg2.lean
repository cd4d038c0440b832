/- The functions' contracts, by the evaluator. No condition. -/
import Derived.Test.YtghebmhlbhmgeaaTXg1
set_option linter.unusedVariables false
set_option linter.unusedSimpArgs false
set_option maxRecDepth 100000
set_option maxHeartbeats 4000000
namespace Go.Proofs.Ytghebmhlbhmgeaa.QS
open Go.RowKit Go.Proofs.YtghebmhlbhmgeaaW.PrintWords Go.Proofs.YtghebmhlbhmgeaaW.PrintLast Go.Proofs.YtghebmhlbhmgeaaW.PrintMore Go.Tx
theorem bits_Mul64.sem {a0 : Int} {a1 : Int} {r1 : Int} {r2 : Int} (H : bits_Mul64.f a0 a1 = some (r1, r2)) :
    CSem Try.prog Vs 87 [.lf (ik .u64 a0), .lf (ik .u64 a1)] [.lf (ik .u64 r1), .lf (ik .u64 r2)] [] := by
  refine fs_ Try.f87 ?_
  intro G go sub
  simp only [bits_Mul64.f] at H; refine go _ _ ?_; exact run_
theorem impl_mod.sem {a0 : Int} {a1 : Int} {r : Int} (H : impl_mod.f a0 a1 = some r) :
    CSem Try.prog Vs 88 [.lf (ii a0), .lf (ii a1)] [.lf (ii r)] [] := by
  refine fs_ Try.f88 ?_
  intro G go sub
  simp only [impl_mod.f] at H; refine go _ _ ?_; exact run_
theorem bits_Len64.sem {k : Nat} {a0 : Int} {r : Int} (H : bits_Len64.f k a0 = some r) :
    CSem Try.prog Vs 91 [.lf (ik .u64 a0)] [.lf (ii r)] [] := by
  refine fs_ Try.f91 ?_
  intro G go sub
  have hs : ∀ kk : Nat, (∀ (x0 x2 : Int) (H : bits_Len64.j0 kk x0 x2 = some r), G (contAt Try.f91 [1, 0, 1]) (hdSt [(0, al (ik .u64 x0)), (2, ai x2)] [])) := by
    intro kk
    induction kk with
    | zero => (intros; rename_i H; cases H)
    | succ kk ih =>
    have i0 := ih
    intros; rename_i H; simp only [bits_Len64.j0] at H; refine go _ _ ?_; exact run_
  have i0 := fun kk => (hs kk)
  simp only [bits_Len64.f] at H; refine go _ _ ?_; exact run_
theorem bits_LeadingZeros64.sem {k : Nat} {a0 : Int} {r : Int} (H : bits_LeadingZeros64.f k a0 = some r) :
    CSem Try.prog Vs 90 [.lf (ik .u64 a0)] [.lf (ii r)] [] := by
  have c0_ := @bits_Len64.sem
  refine fs_ Try.f90 ?_
  intro G go sub
  simp only [bits_LeadingZeros64.f] at H; refine go _ _ ?_; exact run_
theorem bits_Div64.sem {k : Nat} {a0 : Int} {a1 : Int} {a2 : Int} {r1 : Int} {r2 : Int} (H : bits_Div64.f k a0 a1 a2 = some (r1, r2)) :
    CSem Try.prog Vs 89 [.lf (ik .u64 a0), .lf (ik .u64 a1), .lf (ik .u64 a2)] [.lf (ik .u64 r1), .lf (ik .u64 r2)] [] := by
  have c0_ := @bits_LeadingZeros64.sem
  refine fs_ Try.f89 ?_
  intro G go sub
  have hs : ∀ kk : Nat, (∀ (x2 x8 x9 x10 x11 x13 x14 x15 : Int) (H : bits_Div64.j2 kk x2 x8 x9 x10 x11 x13 x14 x15 = some (r1, r2)), G (contAt Try.f89 [1, 1, 1, 1, 1, 1, 1, 1, 1, 1, 1, 1, 1, 1, 0]) (hdSt [(2, al (ik .u64 x2)), (8, al (ik .u64 x8)), (9, al (ik .u64 x9)), (10, al (ik .u64 x10)), (11, al (ik .u64 x11)), (13, al (ik .u64 x13)), (14, al (ik .u64 x14)), (15, al (ik .u64 x15))] [])) ∧ (∀ (x2 x8 x9 x10 x14 x15 x16 x17 x18 : Int) (H : bits_Div64.l1 kk x2 x8 x9 x10 x14 x15 x16 x17 x18 = some (r1, r2)), G (loopAt Try.f89 [1, 1, 1, 1, 1, 1, 1, 1, 1, 1, 1, 1, 1, 1, 1, 1, 1, 1, 0, 0]) (hdSt [(2, al (ik .u64 x2)), (8, al (ik .u64 x8)), (9, al (ik .u64 x9)), (10, al (ik .u64 x10)), (14, al (ik .u64 x14)), (15, al (ik .u64 x15)), (16, al (ik .u64 x16)), (17, al (ik .u64 x17)), (18, al (ik .u64 x18))] [])) ∧ (∀ (x2 x8 x9 x10 x14 x15 x16 x17 x18 : Int) (x113 : Bool) (H : bits_Div64.j4 kk x2 x8 x9 x10 x14 x15 x16 x17 x18 x113 = some (r1, r2)), G (contAt Try.f89 [1, 1, 1, 1, 1, 1, 1, 1, 1, 1, 1, 1, 1, 1, 1, 1, 1, 1, 0, 0, 0, 0, 0]) (hdSt [(2, al (ik .u64 x2)), (8, al (ik .u64 x8)), (9, al (ik .u64 x9)), (10, al (ik .u64 x10)), (14, al (ik .u64 x14)), (15, al (ik .u64 x15)), (16, al (ik .u64 x16)), (17, al (ik .u64 x17)), (18, al (ik .u64 x18)), (113, al (.bool x113))] [])) ∧ (∀ (x2 x8 x9 x10 x11 x13 x14 x15 x16 : Int) (H : bits_Div64.l0 kk x2 x8 x9 x10 x11 x13 x14 x15 x16 = some (r1, r2)), G (loopAt Try.f89 [1, 1, 1, 1, 1, 1, 1, 1, 1, 1, 1, 1, 1, 1, 0, 0]) (hdSt [(2, al (ik .u64 x2)), (8, al (ik .u64 x8)), (9, al (ik .u64 x9)), (10, al (ik .u64 x10)), (11, al (ik .u64 x11)), (13, al (ik .u64 x13)), (14, al (ik .u64 x14)), (15, al (ik .u64 x15)), (16, al (ik .u64 x16))] [])) ∧ (∀ (x2 x8 x9 x10 x11 x13 x14 x15 x16 : Int) (x78 : Bool) (H : bits_Div64.j1 kk x2 x8 x9 x10 x11 x13 x14 x15 x16 x78 = some (r1, r2)), G (contAt Try.f89 [1, 1, 1, 1, 1, 1, 1, 1, 1, 1, 1, 1, 1, 1, 0, 0, 0, 0, 0]) (hdSt [(2, al (ik .u64 x2)), (8, al (ik .u64 x8)), (9, al (ik .u64 x9)), (10, al (ik .u64 x10)), (11, al (ik .u64 x11)), (13, al (ik .u64 x13)), (14, al (ik .u64 x14)), (15, al (ik .u64 x15)), (16, al (ik .u64 x16)), (78, al (.bool x78))] [])) := by
    intro kk
    induction kk with
    | zero => refine ⟨?_, ?_, ?_, ?_, ?_⟩ <;> (intros; rename_i H; cases H)
    | succ kk ih =>
    obtain ⟨i0, i1, i2, i3, i4⟩ := ih
    refine ⟨?_, ?_, ?_, ?_, ?_⟩
    · intros; rename_i H; simp only [bits_Div64.j2] at H; refine go _ _ ?_; exact run_
    · intros; rename_i H; simp only [bits_Div64.l1] at H; refine go _ _ ?_; exact run_
    · intros; rename_i H; simp only [bits_Div64.j4] at H; refine go _ _ ?_; exact run_
    · intros; rename_i H; simp only [bits_Div64.l0] at H; refine go _ _ ?_; exact run_
    · intros; rename_i H; simp only [bits_Div64.j1] at H; refine go _ _ ?_; exact run_
  have i0 := fun kk => (hs kk).1
  have i1 := fun kk => (hs kk).2.1
  have i2 := fun kk => (hs kk).2.2.1
  have i3 := fun kk => (hs kk).2.2.2.1
  have i4 := fun kk => (hs kk).2.2.2.2
  simp only [bits_Div64.f] at H; refine go _ _ ?_; exact run_
theorem impl_times.sem {k : Nat} {a0 : Int} {a1 : Int} {a2 : Int} {r : Int} (H : impl_times.f k a0 a1 a2 = some r) :
    CSem Try.prog Vs 80 [.lf (ii a0), .lf (ii a1), .lf (ii a2)] [.lf (ii r)] [] := by
  have c0_ := @bits_Mul64.sem
  have c1_ := @impl_mod.sem
  have c2_ := @bits_Div64.sem
  refine fs_ Try.f80 ?_
  intro G go sub
  simp only [impl_times.f] at H; refine go _ _ ?_; exact run_
theorem impl_unit.sem {k : Nat} {a0 : Int} {a1 : Int} {r : Int} (H : impl_unit.f k a0 a1 = some r) :
    CSem Try.prog Vs 81 [.lf (ii a0), .lf (ii a1)] [.lf (ii r)] [] := by
  have c0_ := @impl_power.sem
  have c1_ := @impl_valuation.sem
  refine fs_ Try.f81 ?_
  intro G go sub
  simp only [impl_unit.f] at H; refine go _ _ ?_; exact run_
theorem impl_inverse.sem {k : Nat} {a0 : Int} {a1 : Int} {r : Int} (H : impl_inverse.f k a0 a1 = some r) :
    CSem Try.prog Vs 82 [.lf (ii a0), .lf (ii a1)] [.lf (ii r)] [] := by
  have c0_ := @impl_mod.sem
  refine fs_ Try.f82 ?_
  intro G go sub
  have hs : ∀ kk : Nat, (∀ (x1 x5 x6 x7 x8 : Int) (H : impl_inverse.l0 kk x1 x5 x6 x7 x8 = some r), G (loopAt Try.f82 [1, 1, 0, 0]) (hdSt [(1, ai x1), (5, ai x5), (6, ai x6), (7, ai x7), (8, ai x8)] [])) := by
    intro kk
    induction kk with
    | zero => (intros; rename_i H; cases H)
    | succ kk ih =>
    have i0 := ih
    intros; rename_i H; simp only [impl_inverse.l0] at H; refine go _ _ ?_; exact run_
  have i0 := fun kk => (hs kk)
  simp only [impl_inverse.f] at H; refine go _ _ ?_; exact run_
theorem impl_ofMark.sem {k : Nat} {a0 : Int} {a1 : Int} {a2 : Int} {r1 : Int} {r2 : Int} {r3 : Int} {r4 : Bool} (H : impl_ofMark.f k a0 a1 a2 = some (r1, r2, r3, r4)) :
    CSem Try.prog Vs 83 [.lf (ii a0), .lf (ii a1), .lf (ii a2)] [.agg [ii r1, ii r2, ii r3], .lf (.bool r4)] [] := by
  have c0_ := @impl_power.sem
  have c1_ := @impl_valuation.sem
  have c2_ := @impl_isLevel.sem
  have c3_ := @impl_mod.sem
  refine fs_ Try.f83 ?_
  intro G go sub
  simp only [impl_ofMark.f] at H; refine go _ _ ?_; exact run_
theorem impl_ballAt.sem {k : Nat} {a0 : Int} {a1 : Int} {a2 : Int} {a3 : Int} {r1 : Int} {r2 : Int} {r3 : Int} {r4 : Bool} (H : impl_ballAt.f k a0 a1 a2 a3 = some (r1, r2, r3, r4)) :
    CSem Try.prog Vs 59 [.lf (ii a0), .lf (ii a1), .lf (ii a2), .lf (ii a3)] [.agg [ii r1, ii r2, ii r3], .lf (.bool r4)] [] := by
  have c0_ := @impl_power.sem
  have c1_ := @impl_valuation.sem
  have c2_ := @impl_isLevel.sem
  have c3_ := @impl_times.sem
  have c4_ := @impl_unit.sem
  have c5_ := @impl_inverse.sem
  have c6_ := @impl_ofMark.sem
  refine fs_ Try.f59 ?_
  intro G go sub
  have hs : ∀ kk : Nat, (∀ (x0 x1 x2 x3 x10 : Int) (x24 : Bool) (x307000 x307001 x307002 : Int) (H : impl_ballAt.j0 kk x0 x1 x2 x3 x10 x24 = some (r1, r2, r3, r4)), G (contAt Try.f59 [1, 1, 1, 0, 0, 0]) (hdSt [(0, ai x0), (1, ai x1), (2, ai x2), (3, ai x3), (8, ap 8), (10, ai x10), (24, al (.bool x24))] [(8, 28, [ii x307000, ii x307001, ii x307002])])) := by
    intro kk
    induction kk with
    | zero => (intros; rename_i H; cases H)
    | succ kk ih =>
    have i0 := ih
    intros; rename_i H; simp only [impl_ballAt.j0] at H; refine go _ _ ?_; exact run_
  have i0 := fun kk => (hs kk)
  simp only [impl_ballAt.f] at H; refine go _ _ ?_; exact run_
end Go.Proofs.Ytghebmhlbhmgeaa.QS
