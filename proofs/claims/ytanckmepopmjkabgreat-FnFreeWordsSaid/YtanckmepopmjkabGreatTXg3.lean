/- The functions' contracts, by the evaluator. No condition. -/
import Derived.Test.YtanckmepopmjkabGreatTXg2
set_option linter.unusedVariables false
set_option linter.unusedSimpArgs false
set_option maxRecDepth 100000
set_option maxHeartbeats 4000000
namespace Go.Proofs.YtanckmepopmjkabGreat.QW
open Go.RowKit Go.Proofs.YtanckmepopmjkabGreatW.PrintWords Go.Proofs.YtanckmepopmjkabGreatW.PrintLast Go.Proofs.YtanckmepopmjkabGreatW.PrintMore Go.Tx
theorem impl_areMatrices.sem {k : Nat} {l0 : List (S47)} {r : Bool} (H : impl_areMatrices.f k l0 = some r) :
    CSem Tryz.prog Vs 54 [.lf (.row .lent (.nam 1) l0)] [.lf (.bool r)] [] := by
  have c0_ := @impl_IsMatrix.sem
  refine fs_ Tryz.f54 ?_
  intro G go sub seal_
  have hs : ∀ kk : Nat, (∀ (x5 : List (S47)) (x6 x7 : Int) (H : impl_areMatrices.l0 kk x5 x6 x7 = some r), G (loopAt Tryz.f54 [1, 0, 1, 0]) (hdSt [(5, al (.row .lent (.nam 1) x5)), (6, ai x6), (7, ai x7)] [])) := by
    intro kk
    induction kk with
    | zero => (intros; rename_i H; cases H)
    | succ kk ih =>
    have i0 := ih
    intros; rename_i H; simp only [impl_areMatrices.l0] at H; refine go _ _ ?_; exact run_
  have i0 := fun kk => (hs kk)
  simp only [impl_areMatrices.f] at H; refine go _ _ ?_; exact run_
theorem impl_mark.sem {k : Nat} {a0 : Int} {a1_0 : Int} {a1_1 : Int} {a1_2 : Int} {r : Int} (H : impl_mark.f k a0 a1_0 a1_1 a1_2 = some r) :
    CSem Tryz.prog Vs 72 [.lf (ii a0), .agg [ii a1_0, ii a1_1, ii a1_2]] [.lf (ii r)] [] := by
  have c0_ := @impl_power.sem
  refine fs_ Tryz.f72 ?_
  intro G go sub seal_
  simp only [impl_mark.f] at H; refine go _ _ ?_; exact run_
theorem impl_valuation.sem {k : Nat} {a0 : Int} {a1 : Int} {r : Int} (H : impl_valuation.f k a0 a1 = some r) :
    CSem Tryz.prog Vs 73 [.lf (ii a0), .lf (ii a1)] [.lf (ii r)] [] := by
  refine fs_ Tryz.f73 ?_
  intro G go sub seal_
  have hs : ∀ kk : Nat, (∀ (x0 x1 x5 : Int) (H : impl_valuation.l0 kk x0 x1 x5 = some r), G (loopAt Tryz.f73 [1, 1, 1, 0, 0]) (hdSt [(0, ai x0), (1, ai x1), (5, ai x5)] [])) := by
    intro kk
    induction kk with
    | zero => (intros; rename_i H; cases H)
    | succ kk ih =>
    have i0 := ih
    intros; rename_i H; simp only [impl_valuation.l0] at H; refine go _ _ ?_; exact run_
  have i0 := fun kk => (hs kk)
  simp only [impl_valuation.f] at H; refine go _ _ ?_; exact run_
theorem bits_Mul64.sem {a0 : Int} {a1 : Int} {r1 : Int} {r2 : Int} (H : bits_Mul64.f a0 a1 = some (r1, r2)) :
    CSem Tryz.prog Vs 109 [.lf (ik .u64 a0), .lf (ik .u64 a1)] [.lf (ik .u64 r1), .lf (ik .u64 r2)] [] := by
  refine fs_ Tryz.f109 ?_
  intro G go sub seal_
  simp only [bits_Mul64.f] at H; refine go _ _ ?_; exact run_
theorem impl_mod.sem {a0 : Int} {a1 : Int} {r : Int} (H : impl_mod.f a0 a1 = some r) :
    CSem Tryz.prog Vs 110 [.lf (ii a0), .lf (ii a1)] [.lf (ii r)] [] := by
  refine fs_ Tryz.f110 ?_
  intro G go sub seal_
  simp only [impl_mod.f] at H; refine go _ _ ?_; exact run_
theorem bits_Len64.sem {k : Nat} {a0 : Int} {r : Int} (H : bits_Len64.f k a0 = some r) :
    CSem Tryz.prog Vs 114 [.lf (ik .u64 a0)] [.lf (ii r)] [] := by
  refine fs_ Tryz.f114 ?_
  intro G go sub seal_
  have hs : ∀ kk : Nat, (∀ (x0 x2 : Int) (H : bits_Len64.j0 kk x0 x2 = some r), G (contAt Tryz.f114 [1, 0, 1]) (hdSt [(0, al (ik .u64 x0)), (2, ai x2)] [])) := by
    intro kk
    induction kk with
    | zero => (intros; rename_i H; cases H)
    | succ kk ih =>
    have i0 := ih
    intros; rename_i H; simp only [bits_Len64.j0] at H; refine go _ _ ?_; exact run_
  have i0 := fun kk => (hs kk)
  simp only [bits_Len64.f] at H; refine go _ _ ?_; exact run_
theorem bits_LeadingZeros64.sem {k : Nat} {a0 : Int} {r : Int} (H : bits_LeadingZeros64.f k a0 = some r) :
    CSem Tryz.prog Vs 113 [.lf (ik .u64 a0)] [.lf (ii r)] [] := by
  have c0_ := @bits_Len64.sem
  refine fs_ Tryz.f113 ?_
  intro G go sub seal_
  simp only [bits_LeadingZeros64.f] at H; refine go _ _ ?_; exact run_
theorem bits_Div64.sem {k : Nat} {a0 : Int} {a1 : Int} {a2 : Int} {r1 : Int} {r2 : Int} (H : bits_Div64.f k a0 a1 a2 = some (r1, r2)) :
    CSem Tryz.prog Vs 111 [.lf (ik .u64 a0), .lf (ik .u64 a1), .lf (ik .u64 a2)] [.lf (ik .u64 r1), .lf (ik .u64 r2)] [] := by
  have c0_ := @bits_LeadingZeros64.sem
  refine fs_ Tryz.f111 ?_
  intro G go sub seal_
  have hs : ∀ kk : Nat, (∀ (x2 x8 x9 x10 x11 x13 x14 x15 : Int) (H : bits_Div64.j2 kk x2 x8 x9 x10 x11 x13 x14 x15 = some (r1, r2)), G (contAt Tryz.f111 [1, 1, 1, 1, 1, 1, 1, 1, 1, 1, 1, 1, 1, 1, 0]) (hdSt [(2, al (ik .u64 x2)), (8, al (ik .u64 x8)), (9, al (ik .u64 x9)), (10, al (ik .u64 x10)), (11, al (ik .u64 x11)), (13, al (ik .u64 x13)), (14, al (ik .u64 x14)), (15, al (ik .u64 x15))] [])) ∧ (∀ (x2 x8 x9 x10 x14 x15 x16 x17 x18 : Int) (H : bits_Div64.l1 kk x2 x8 x9 x10 x14 x15 x16 x17 x18 = some (r1, r2)), G (loopAt Tryz.f111 [1, 1, 1, 1, 1, 1, 1, 1, 1, 1, 1, 1, 1, 1, 1, 1, 1, 1, 0, 0]) (hdSt [(2, al (ik .u64 x2)), (8, al (ik .u64 x8)), (9, al (ik .u64 x9)), (10, al (ik .u64 x10)), (14, al (ik .u64 x14)), (15, al (ik .u64 x15)), (16, al (ik .u64 x16)), (17, al (ik .u64 x17)), (18, al (ik .u64 x18))] [])) ∧ (∀ (x2 x8 x9 x10 x14 x15 x16 x17 x18 : Int) (x113 : Bool) (H : bits_Div64.j4 kk x2 x8 x9 x10 x14 x15 x16 x17 x18 x113 = some (r1, r2)), G (contAt Tryz.f111 [1, 1, 1, 1, 1, 1, 1, 1, 1, 1, 1, 1, 1, 1, 1, 1, 1, 1, 0, 0, 0, 0, 0]) (hdSt [(2, al (ik .u64 x2)), (8, al (ik .u64 x8)), (9, al (ik .u64 x9)), (10, al (ik .u64 x10)), (14, al (ik .u64 x14)), (15, al (ik .u64 x15)), (16, al (ik .u64 x16)), (17, al (ik .u64 x17)), (18, al (ik .u64 x18)), (113, al (.bool x113))] [])) ∧ (∀ (x2 x8 x9 x10 x11 x13 x14 x15 x16 : Int) (H : bits_Div64.l0 kk x2 x8 x9 x10 x11 x13 x14 x15 x16 = some (r1, r2)), G (loopAt Tryz.f111 [1, 1, 1, 1, 1, 1, 1, 1, 1, 1, 1, 1, 1, 1, 0, 0]) (hdSt [(2, al (ik .u64 x2)), (8, al (ik .u64 x8)), (9, al (ik .u64 x9)), (10, al (ik .u64 x10)), (11, al (ik .u64 x11)), (13, al (ik .u64 x13)), (14, al (ik .u64 x14)), (15, al (ik .u64 x15)), (16, al (ik .u64 x16))] [])) ∧ (∀ (x2 x8 x9 x10 x11 x13 x14 x15 x16 : Int) (x78 : Bool) (H : bits_Div64.j1 kk x2 x8 x9 x10 x11 x13 x14 x15 x16 x78 = some (r1, r2)), G (contAt Tryz.f111 [1, 1, 1, 1, 1, 1, 1, 1, 1, 1, 1, 1, 1, 1, 0, 0, 0, 0, 0]) (hdSt [(2, al (ik .u64 x2)), (8, al (ik .u64 x8)), (9, al (ik .u64 x9)), (10, al (ik .u64 x10)), (11, al (ik .u64 x11)), (13, al (ik .u64 x13)), (14, al (ik .u64 x14)), (15, al (ik .u64 x15)), (16, al (ik .u64 x16)), (78, al (.bool x78))] [])) := by
    intro kk
    induction kk with
    | zero => refine ⟨?_, ?_, ?_, ?_, ?_⟩ <;> (intros; rename_i H; cases H)
    | succ kk ih =>
    obtain ⟨i0, i1, i2, i3, i4⟩ := ih
    refine ⟨?_, ?_, ?_, ?_, ?_⟩
    · intros; rename_i H; simp only [bits_Div64.j2] at H; refine go _ _ ?_; exact run_
    · intros; rename_i H; simp only [bits_Div64.l1] at H; refine go _ _ ?_; exact run_
    · intros; rename_i H; simp only [bits_Div64.j4] at H; refine go _ _ ?_; exact run_
    · intros; rename_i H; simp only [bits_Div64.l0] at H; refine go _ _ ?_; exact run_
    · intros; rename_i H; simp only [bits_Div64.j1] at H; refine go _ _ ?_; exact run_
  have i0 := fun kk => (hs kk).1
  have i1 := fun kk => (hs kk).2.1
  have i2 := fun kk => (hs kk).2.2.1
  have i3 := fun kk => (hs kk).2.2.2.1
  have i4 := fun kk => (hs kk).2.2.2.2
  simp only [bits_Div64.f] at H; refine go _ _ ?_; exact run_
theorem impl_times.sem {k : Nat} {a0 : Int} {a1 : Int} {a2 : Int} {r : Int} (H : impl_times.f k a0 a1 a2 = some r) :
    CSem Tryz.prog Vs 99 [.lf (ii a0), .lf (ii a1), .lf (ii a2)] [.lf (ii r)] [] := by
  have c0_ := @bits_Mul64.sem
  have c1_ := @impl_mod.sem
  have c2_ := @bits_Div64.sem
  refine fs_ Tryz.f99 ?_
  intro G go sub seal_
  simp only [impl_times.f] at H; refine go _ _ ?_; exact run_
theorem impl_unit.sem {k : Nat} {a0 : Int} {a1 : Int} {r : Int} (H : impl_unit.f k a0 a1 = some r) :
    CSem Tryz.prog Vs 100 [.lf (ii a0), .lf (ii a1)] [.lf (ii r)] [] := by
  have c0_ := @impl_power.sem
  have c1_ := @impl_valuation.sem
  refine fs_ Tryz.f100 ?_
  intro G go sub seal_
  simp only [impl_unit.f] at H; refine go _ _ ?_; exact run_
theorem impl_inverse.sem {k : Nat} {a0 : Int} {a1 : Int} {r : Int} (H : impl_inverse.f k a0 a1 = some r) :
    CSem Tryz.prog Vs 101 [.lf (ii a0), .lf (ii a1)] [.lf (ii r)] [] := by
  have c0_ := @impl_mod.sem
  refine fs_ Tryz.f101 ?_
  intro G go sub seal_
  have hs : ∀ kk : Nat, (∀ (x1 x5 x6 x7 x8 : Int) (H : impl_inverse.l0 kk x1 x5 x6 x7 x8 = some r), G (loopAt Tryz.f101 [1, 1, 0, 0]) (hdSt [(1, ai x1), (5, ai x5), (6, ai x6), (7, ai x7), (8, ai x8)] [])) := by
    intro kk
    induction kk with
    | zero => (intros; rename_i H; cases H)
    | succ kk ih =>
    have i0 := ih
    intros; rename_i H; simp only [impl_inverse.l0] at H; refine go _ _ ?_; exact run_
  have i0 := fun kk => (hs kk)
  simp only [impl_inverse.f] at H; refine go _ _ ?_; exact run_
theorem impl_ofMark.sem {k : Nat} {a0 : Int} {a1 : Int} {a2 : Int} {r1 : Int} {r2 : Int} {r3 : Int} {r4 : Bool} (H : impl_ofMark.f k a0 a1 a2 = some (r1, r2, r3, r4)) :
    CSem Tryz.prog Vs 102 [.lf (ii a0), .lf (ii a1), .lf (ii a2)] [.agg [ii r1, ii r2, ii r3], .lf (.bool r4)] [] := by
  have c0_ := @impl_power.sem
  have c1_ := @impl_valuation.sem
  have c2_ := @impl_isLevel.sem
  have c3_ := @impl_mod.sem
  refine fs_ Tryz.f102 ?_
  intro G go sub seal_
  simp only [impl_ofMark.f] at H; refine go _ _ ?_; exact run_
end Go.Proofs.YtanckmepopmjkabGreat.QW
