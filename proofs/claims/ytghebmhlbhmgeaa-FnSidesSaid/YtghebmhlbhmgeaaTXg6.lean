/- The functions' contracts, by the evaluator. No condition. -/
import Derived.Test.YtghebmhlbhmgeaaTXg5
set_option linter.unusedVariables false
set_option linter.unusedSimpArgs false
set_option maxRecDepth 100000
set_option maxHeartbeats 4000000
namespace Go.Proofs.Ytghebmhlbhmgeaa.QS
open Go.RowKit Go.Proofs.YtghebmhlbhmgeaaW.PrintWords Go.Proofs.YtghebmhlbhmgeaaW.PrintLast Go.Proofs.YtghebmhlbhmgeaaW.PrintMore Go.Tx
theorem impl_reduced.sem {k : Nat} {a0_0 : Int} {a0_1 : Int} {a0_2 : Int} {a0_3 : Int} {r1 : Int} {r2 : Int} {r3 : Int} {r4 : Int} {r5 : Bool} (H : impl_reduced.f k a0_0 a0_1 a0_2 a0_3 = some (r1, r2, r3, r4, r5)) :
    CSem Try.prog Vs 41 [.agg [ii a0_0, ii a0_1, ii a0_2, ii a0_3]] [.agg [ii r1, ii r2, ii r3, ii r4], .lf (.bool r5)] [] := by
  have c0_ := @impl_IsMatrix.sem
  have c1_ := @impl_gcd.sem
  refine fs_ Try.f41 ?_
  intro G go sub
  have hs : ∀ kk : Nat, (∀ (x4 : Int) (x37 : Bool) (x602000 x602001 x602002 x602003 x603000 x603001 x603002 x603003 : Int) (H : impl_reduced.j0 kk x4 x37 x602000 x602001 x602002 x602003 = some (r1, r2, r3, r4, r5)), G (contAt Try.f41 [1, 1, 0, 0]) (hdSt [(1, ap 1), (2, ap 2), (4, ai x4), (37, al (.bool x37))] [(1, 26, [ii x602000, ii x602001, ii x602002, ii x602003]), (2, 26, [ii x603000, ii x603001, ii x603002, ii x603003])])) ∧ (∀ (x4 x602000 x602001 x602002 x602003 x603000 x603001 x603002 x603003 : Int) (H : impl_reduced.j1 kk x4 x602000 x602001 x602002 x602003 = some (r1, r2, r3, r4, r5)), G (contAt Try.f41 [1, 1, 0, 1]) (hdSt [(1, ap 1), (2, ap 2), (4, ai x4)] [(1, 26, [ii x602000, ii x602001, ii x602002, ii x602003]), (2, 26, [ii x603000, ii x603001, ii x603002, ii x603003])])) ∧ (∀ (x4 x40 x602000 x602001 x602002 x602003 x603000 x603001 x603002 x603003 : Int) (H : impl_reduced.l0 kk x4 x40 x602000 x602001 x602002 x602003 = some (r1, r2, r3, r4, r5)), G (loopAt Try.f41 [1, 1, 1, 0, 1, 0]) (hdSt [(1, ap 1), (2, ap 2), (4, ai x4), (40, ai x40)] [(1, 26, [ii x602000, ii x602001, ii x602002, ii x602003]), (2, 26, [ii x603000, ii x603001, ii x603002, ii x603003])])) ∧ (∀ (x4 x5 x40 x43 x602000 x602001 x602002 x602003 x603000 x603001 x603002 x603003 : Int) (H : impl_reduced.l1 kk x4 x5 x40 x43 x602000 x602001 x602002 x602003 = some (r1, r2, r3, r4, r5)), G (loopAt Try.f41 [1, 1, 1, 0, 1, 0, 0, 1, 1, 0, 0, 1, 1, 0]) (hdSt [(1, ap 1), (2, ap 2), (4, ai x4), (5, ai x5), (40, ai x40), (43, ai x43)] [(1, 26, [ii x602000, ii x602001, ii x602002, ii x602003]), (2, 26, [ii x603000, ii x603001, ii x603002, ii x603003])])) := by
    intro kk
    induction kk with
    | zero => refine ⟨?_, ?_, ?_, ?_⟩ <;> (intros; rename_i H; cases H)
    | succ kk ih =>
    obtain ⟨i0, i1, i2, i3⟩ := ih
    refine ⟨?_, ?_, ?_, ?_⟩
    · intros; rename_i H; simp only [impl_reduced.j0] at H; refine go _ _ ?_; exact run_
    · intros; rename_i H; simp only [impl_reduced.j1] at H; refine go _ _ ?_; exact run_
    · intros; rename_i H; simp only [impl_reduced.l0] at H; refine go _ _ ?_; exact run_
    · intros; rename_i H; simp only [impl_reduced.l1] at H; refine go _ _ ?_; exact run_
  have i0 := fun kk => (hs kk).1
  have i1 := fun kk => (hs kk).2.1
  have i2 := fun kk => (hs kk).2.2.1
  have i3 := fun kk => (hs kk).2.2.2
  simp only [impl_reduced.f] at H; refine go _ _ ?_; exact run_
theorem impl_PairedMover.sem {k : Nat} {a0 : Int} {a1_0 : Int} {a1_1 : Int} {a1_2 : Int} {a2_0 : Int} {a2_1 : Int} {a2_2 : Int} {r1 : Int} {r2 : Int} {r3 : Int} {r4 : Int} {r5 : Int} (H : impl_PairedMover.f k a0 a1_0 a1_1 a1_2 a2_0 a2_1 a2_2 = some (r1, r2, r3, r4, r5)) :
    CSem Try.prog Vs 11 [.lf (ii a0), .agg [ii a1_0, ii a1_1, ii a1_2], .agg [ii a2_0, ii a2_1, ii a2_2]] [.agg [ii r1, ii r2, ii r3, ii r4], .lf (ii r5)] [] := by
  have c0_ := @impl_areBalls.sem
  have c1_ := @impl_apart.sem
  have c2_ := @impl_power.sem
  have c3_ := @impl_within.sem
  have c4_ := @impl_fittedMatrix.sem
  have c5_ := @impl_reduced.sem
  refine fs_ Try.f11 ?_
  intro G go sub
  have hs : ∀ kk : Nat, (∀ (x0 : Int) (x36 : Bool) (x608000 x608001 x608002 x609000 x609001 x609002 x610000 x610001 x610002 x610003 : Int) (H : impl_PairedMover.j0 kk x0 x36 x608000 x608001 x608002 x609000 x609001 x609002 = some (r1, r2, r3, r4, r5)), G (contAt Try.f11 [1, 1, 0, 0]) (hdSt [(0, ai x0), (4, ap 4), (5, ap 5), (6, ap 6), (36, al (.bool x36))] [(4, 28, [ii x608000, ii x608001, ii x608002]), (5, 28, [ii x609000, ii x609001, ii x609002]), (6, 26, [ii x610000, ii x610001, ii x610002, ii x610003])])) ∧ (∀ (x0 x10 x11 x608000 x608001 x608002 x609000 x609001 x609002 x610000 x610001 x610002 x610003 : Int) (H : impl_PairedMover.j1 kk x0 x10 x11 x608000 x608001 x608002 x609000 x609001 x609002 = some (r1, r2, r3, r4, r5)), G (contAt Try.f11 [1, 1, 1, 1, 1, 0, 1, 1]) (hdSt [(0, ai x0), (4, ap 4), (5, ap 5), (6, ap 6), (10, ai x10), (11, ai x11)] [(4, 28, [ii x608000, ii x608001, ii x608002]), (5, 28, [ii x609000, ii x609001, ii x609002]), (6, 26, [ii x610000, ii x610001, ii x610002, ii x610003])])) ∧ (∀ (x0 x10 x11 x608000 x608001 x608002 x609000 x609001 x609002 x610000 x610001 x610002 x610003 : Int) (H : impl_PairedMover.j3 kk x0 x10 x11 x608000 x608001 x608002 x609000 x609001 x609002 = some (r1, r2, r3, r4, r5)), G (contAt Try.f11 [1, 1, 1, 1, 1, 1, 0]) (hdSt [(0, ai x0), (4, ap 4), (5, ap 5), (6, ap 6), (10, ai x10), (11, ai x11)] [(4, 28, [ii x608000, ii x608001, ii x608002]), (5, 28, [ii x609000, ii x609001, ii x609002]), (6, 26, [ii x610000, ii x610001, ii x610002, ii x610003])])) ∧ (∀ (x0 x10 x11 x608000 x608001 x608002 x609000 x609001 x609002 x610000 x610001 x610002 x610003 : Int) (H : impl_PairedMover.j4 kk x0 x10 x11 x608000 x608001 x608002 x609000 x609001 x609002 = some (r1, r2, r3, r4, r5)), G (contAt Try.f11 [1, 1, 1, 1, 1, 1, 1, 0, 1]) (hdSt [(0, ai x0), (4, ap 4), (5, ap 5), (6, ap 6), (10, ai x10), (11, ai x11)] [(4, 28, [ii x608000, ii x608001, ii x608002]), (5, 28, [ii x609000, ii x609001, ii x609002]), (6, 26, [ii x610000, ii x610001, ii x610002, ii x610003])])) ∧ (∀ (x0 x10 x11 x13 : Int) (x126 : Bool) (x608000 x608001 x608002 x609000 x609001 x609002 x610000 x610001 x610002 x610003 : Int) (H : impl_PairedMover.j5 kk x0 x10 x11 x13 x126 x608000 x608001 x608002 x609000 x609001 x609002 = some (r1, r2, r3, r4, r5)), G (contAt Try.f11 [1, 1, 1, 1, 1, 1, 1, 1, 1, 0, 0]) (hdSt [(0, ai x0), (4, ap 4), (5, ap 5), (6, ap 6), (10, ai x10), (11, ai x11), (13, ai x13), (126, al (.bool x126))] [(4, 28, [ii x608000, ii x608001, ii x608002]), (5, 28, [ii x609000, ii x609001, ii x609002]), (6, 26, [ii x610000, ii x610001, ii x610002, ii x610003])])) ∧ (∀ (x0 x10 x11 x608000 x608001 x608002 x609000 x609001 x609002 x610000 x610001 x610002 x610003 : Int) (H : impl_PairedMover.l0 kk x0 x10 x11 x608000 x608001 x608002 x609000 x609001 x609002 = some (r1, r2, r3, r4, r5)), G (loopAt Try.f11 [1, 1, 1, 1, 1, 1, 0, 0]) (hdSt [(0, ai x0), (4, ap 4), (5, ap 5), (6, ap 6), (10, ai x10), (11, ai x11)] [(4, 28, [ii x608000, ii x608001, ii x608002]), (5, 28, [ii x609000, ii x609001, ii x609002]), (6, 26, [ii x610000, ii x610001, ii x610002, ii x610003])])) := by
    intro kk
    induction kk with
    | zero => refine ⟨?_, ?_, ?_, ?_, ?_, ?_⟩ <;> (intros; rename_i H; cases H)
    | succ kk ih =>
    obtain ⟨i0, i1, i2, i3, i4, i5⟩ := ih
    refine ⟨?_, ?_, ?_, ?_, ?_, ?_⟩
    · intros; rename_i H; simp only [impl_PairedMover.j0] at H; refine go _ _ ?_; exact run_
    · intros; rename_i H; simp only [impl_PairedMover.j1] at H; refine go _ _ ?_; exact run_
    · intros; rename_i H; simp only [impl_PairedMover.j3] at H; refine go _ _ ?_; exact run_
    · intros; rename_i H; simp only [impl_PairedMover.j4] at H; refine go _ _ ?_; exact run_
    · intros; rename_i H; simp only [impl_PairedMover.j5] at H; refine go _ _ ?_; exact run_
    · intros; rename_i H; simp only [impl_PairedMover.l0] at H; refine go _ _ ?_; exact run_
  have i0 := fun kk => (hs kk).1
  have i1 := fun kk => (hs kk).2.1
  have i2 := fun kk => (hs kk).2.2.1
  have i3 := fun kk => (hs kk).2.2.2.1
  have i4 := fun kk => (hs kk).2.2.2.2.1
  have i5 := fun kk => (hs kk).2.2.2.2.2
  simp only [impl_PairedMover.f] at H; refine go _ _ ?_; exact run_
theorem spec_l01Code.sem {k : Nat} {a0 : Int} {l1 : List (S28)} {r : Int} (H : spec_l01Code.f k a0 l1 = some r) :
    CSem Try.prog Vs 42 [.lf (ii a0), .lf (.row .lent (.nam 0) l1)] [.lf (ii r)] [] := by
  have c0_ := @spec_l01Prime.sem
  have c1_ := @spec_l01Is.sem
  refine fs_ Try.f42 ?_
  intro G go sub
  have hs : ∀ kk : Nat, (∀ (x0 : Int) (x1 : List (S28)) (x5 : Int) (H : spec_l01Code.l0 kk x0 x1 x5 = some r), G (loopAt Try.f42 [1, 1, 0, 1, 0]) (hdSt [(0, ai x0), (1, al (.row .lent (.nam 0) x1)), (5, ai x5)] [])) := by
    intro kk
    induction kk with
    | zero => (intros; rename_i H; cases H)
    | succ kk ih =>
    have i0 := ih
    intros; rename_i H; simp only [spec_l01Code.l0] at H; refine go _ _ ?_; exact run_
  have i0 := fun kk => (hs kk)
  simp only [spec_l01Code.f] at H; refine go _ _ ?_; exact run_
end Go.Proofs.Ytghebmhlbhmgeaa.QS
