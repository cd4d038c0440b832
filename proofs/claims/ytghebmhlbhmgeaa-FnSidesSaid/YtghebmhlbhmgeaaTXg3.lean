/- The functions' contracts, by the evaluator. No condition. -/
import Derived.Test.YtghebmhlbhmgeaaTXg2
set_option linter.unusedVariables false
set_option linter.unusedSimpArgs false
set_option maxRecDepth 100000
set_option maxHeartbeats 4000000
namespace Go.Proofs.Ytghebmhlbhmgeaa.QS
open Go.RowKit Go.Proofs.YtghebmhlbhmgeaaW.PrintWords Go.Proofs.YtghebmhlbhmgeaaW.PrintLast Go.Proofs.YtghebmhlbhmgeaaW.PrintMore Go.Tx
theorem impl_moveSide.sem {k : Nat} {a0 : Int} {a1_0 : Int} {a1_1 : Int} {a1_2 : Int} {a1_3 : Int} {a2_0 : Int} {a2_1 : Int} {a2_2 : Int} {a2_3 : Bool} {r1 : Int} {r2 : Int} {r3 : Int} {r4 : Bool} {r5 : Bool} (H : impl_moveSide.f k a0 a1_0 a1_1 a1_2 a1_3 a2_0 a2_1 a2_2 a2_3 = some (r1, r2, r3, r4, r5)) :
    CSem Try.prog Vs 25 [.lf (ii a0), .agg [ii a1_0, ii a1_1, ii a1_2, ii a1_3], .agg [ii a2_0, ii a2_1, ii a2_2, .bool a2_3]] [.agg [ii r1, ii r2, ii r3, .bool r4], .lf (.bool r5)] [] := by
  have c0_ := @impl_power.sem
  have c1_ := @impl_determinant.sem
  have c2_ := @impl_mark.sem
  have c3_ := @impl_valuation.sem
  have c4_ := @impl_ballAt.sem
  refine fs_ Try.f25 ?_
  intro G go sub
  have hs : ∀ kk : Nat, (∀ (x0 x10 x11 x12 x13 : Int) (x70 : Bool) (x322000 x322001 x322002 x322003 x323000 x323001 x323002 : Int) (x323003 : Bool) (x324000 x324001 x324002 : Int) (x324003 : Bool) (H : impl_moveSide.j0 kk x0 x10 x11 x12 x13 x70 x322000 x322001 x322002 x322003 x323000 x323001 x323002 x323003 = some (r1, r2, r3, r4, r5)), G (contAt Try.f25 [1, 1, 1, 1, 1, 0, 0]) (hdSt [(0, ai x0), (4, ap 4), (5, ap 5), (6, ap 6), (10, ai x10), (11, ai x11), (12, ai x12), (13, ai x13), (70, al (.bool x70))] [(4, 26, [ii x322000, ii x322001, ii x322002, ii x322003]), (5, 30, [ii x323000, ii x323001, ii x323002, .bool x323003]), (6, 30, [ii x324000, ii x324001, ii x324002, .bool x324003])])) := by
    intro kk
    induction kk with
    | zero => (intros; rename_i H; cases H)
    | succ kk ih =>
    have i0 := ih
    intros; rename_i H; simp only [impl_moveSide.j0] at H; refine go _ _ ?_; exact run_
  have i0 := fun kk => (hs kk)
  simp only [impl_moveSide.f] at H; refine go _ _ ?_; exact run_
theorem impl_MoveSide.sem {k : Nat} {a0 : Int} {a1_0 : Int} {a1_1 : Int} {a1_2 : Int} {a1_3 : Int} {a2_0 : Int} {a2_1 : Int} {a2_2 : Int} {a2_3 : Bool} {r1 : Int} {r2 : Int} {r3 : Int} {r4 : Bool} {r5 : Int} (H : impl_MoveSide.f k a0 a1_0 a1_1 a1_2 a1_3 a2_0 a2_1 a2_2 a2_3 = some (r1, r2, r3, r4, r5)) :
    CSem Try.prog Vs 6 [.lf (ii a0), .agg [ii a1_0, ii a1_1, ii a1_2, ii a1_3], .agg [ii a2_0, ii a2_1, ii a2_2, .bool a2_3]] [.agg [ii r1, ii r2, ii r3, .bool r4], .lf (ii r5)] [] := by
  have c0_ := @impl_areSides.sem
  have c1_ := @impl_IsMatrix.sem
  have c2_ := @impl_moveSide.sem
  refine fs_ Try.f6 ?_
  intro G go sub
  have hs : ∀ kk : Nat, (∀ (x0 : Int) (x19 : Bool) (x342000 x342001 x342002 x342003 x343000 x343001 x343002 : Int) (x343003 : Bool) (x344000 x344001 x344002 : Int) (x344003 : Bool) (H : impl_MoveSide.j0 kk x0 x19 x342000 x342001 x342002 x342003 x343000 x343001 x343002 x343003 = some (r1, r2, r3, r4, r5)), G (contAt Try.f6 [1, 0, 0]) (hdSt [(0, ai x0), (4, ap 4), (5, ap 5), (6, ap 6), (19, al (.bool x19))] [(4, 26, [ii x342000, ii x342001, ii x342002, ii x342003]), (5, 30, [ii x343000, ii x343001, ii x343002, .bool x343003]), (6, 30, [ii x344000, ii x344001, ii x344002, .bool x344003])])) := by
    intro kk
    induction kk with
    | zero => (intros; rename_i H; cases H)
    | succ kk ih =>
    have i0 := ih
    intros; rename_i H; simp only [impl_MoveSide.j0] at H; refine go _ _ ?_; exact run_
  have i0 := fun kk => (hs kk)
  simp only [impl_MoveSide.f] at H; refine go _ _ ?_; exact run_
theorem spec_l01Prime.sem {a0 : Int} {r : Bool} (H : spec_l01Prime.f a0 = some r) :
    CSem Try.prog Vs 60 [.lf (ii a0)] [.lf (.bool r)] [] := by
  refine fs_ Try.f60 ?_
  intro G go sub
  simp only [spec_l01Prime.f] at H; refine go _ _ ?_; exact run_
theorem spec_l01Is.sem {k : Nat} {a0 : Int} {a1_0 : Int} {a1_1 : Int} {a1_2 : Int} {r : Bool} (H : spec_l01Is.f k a0 a1_0 a1_1 a1_2 = some r) :
    CSem Try.prog Vs 61 [.lf (ii a0), .agg [ii a1_0, ii a1_1, ii a1_2]] [.lf (.bool r)] [] := by
  have c0_ := @spec_l01Prime.sem
  have c1_ := @spec_l01In.sem
  have c2_ := @spec_l01Power.sem
  refine fs_ Try.f61 ?_
  intro G go sub
  have hs : ∀ kk : Nat, (∀ (x0 : Int) (x20 : Bool) (x356000 x356001 x356002 : Int) (H : spec_l01Is.j0 kk x0 x20 x356000 x356001 x356002 = some r), G (contAt Try.f61 [1, 0, 0]) (hdSt [(0, ai x0), (3, ap 3), (20, al (.bool x20))] [(3, 28, [ii x356000, ii x356001, ii x356002])])) := by
    intro kk
    induction kk with
    | zero => (intros; rename_i H; cases H)
    | succ kk ih =>
    have i0 := ih
    intros; rename_i H; simp only [spec_l01Is.j0] at H; refine go _ _ ?_; exact run_
  have i0 := fun kk => (hs kk)
  simp only [spec_l01Is.f] at H; refine go _ _ ?_; exact run_
theorem spec_l09Code.sem {k : Nat} {a0 : Int} {l1 : List (S30)} {r : Int} (H : spec_l09Code.f k a0 l1 = some r) :
    CSem Try.prog Vs 26 [.lf (ii a0), .lf (.row .lent (.nam 1) l1)] [.lf (ii r)] [] := by
  have c0_ := @spec_l01Prime.sem
  have c1_ := @spec_l01Is.sem
  refine fs_ Try.f26 ?_
  intro G go sub
  have hs : ∀ kk : Nat, (∀ (x0 : Int) (x1 : List (S30)) (x5 : Int) (H : spec_l09Code.l0 kk x0 x1 x5 = some r), G (loopAt Try.f26 [1, 1, 0, 1, 0]) (hdSt [(0, ai x0), (1, al (.row .lent (.nam 1) x1)), (5, ai x5)] [])) := by
    intro kk
    induction kk with
    | zero => (intros; rename_i H; cases H)
    | succ kk ih =>
    have i0 := ih
    intros; rename_i H; simp only [spec_l09Code.l0] at H; refine go _ _ ?_; exact run_
  have i0 := fun kk => (hs kk)
  simp only [spec_l09Code.f] at H; refine go _ _ ?_; exact run_
theorem spec_l04Is.sem {k : Nat} {a0_0 : Int} {a0_1 : Int} {a0_2 : Int} {a0_3 : Int} {r : Bool} (H : spec_l04Is.f k a0_0 a0_1 a0_2 a0_3 = some r) :
    CSem Try.prog Vs 27 [.agg [ii a0_0, ii a0_1, ii a0_2, ii a0_3]] [.lf (.bool r)] [] := by
  have c0_ := @spec_l04Det.sem
  have c1_ := @spec_l01In.sem
  refine fs_ Try.f27 ?_
  intro G go sub
  have hs : ∀ kk : Nat, (∀ (x3 x365000 x365001 x365002 x365003 : Int) (H : spec_l04Is.l0 kk x3 x365000 x365001 x365002 x365003 = some r), G (loopAt Try.f27 [1, 0, 1, 0]) (hdSt [(1, ap 1), (3, ai x3)] [(1, 26, [ii x365000, ii x365001, ii x365002, ii x365003])])) ∧ (∀ (x3 x4 x365000 x365001 x365002 x365003 : Int) (H : spec_l04Is.l1 kk x3 x4 x365000 x365001 x365002 x365003 = some r), G (loopAt Try.f27 [1, 0, 1, 0, 0, 1, 0, 0, 1, 0]) (hdSt [(1, ap 1), (3, ai x3), (4, ai x4)] [(1, 26, [ii x365000, ii x365001, ii x365002, ii x365003])])) := by
    intro kk
    induction kk with
    | zero => refine ⟨?_, ?_⟩ <;> (intros; rename_i H; cases H)
    | succ kk ih =>
    obtain ⟨i0, i1⟩ := ih
    refine ⟨?_, ?_⟩
    · intros; rename_i H; simp only [spec_l04Is.l0] at H; refine go _ _ ?_; exact run_
    · intros; rename_i H; simp only [spec_l04Is.l1] at H; refine go _ _ ?_; exact run_
  have i0 := fun kk => (hs kk).1
  have i1 := fun kk => (hs kk).2
  simp only [spec_l04Is.f] at H; refine go _ _ ?_; exact run_
theorem spec_l09Move.sem {k : Nat} {a0 : Int} {a1_0 : Int} {a1_1 : Int} {a1_2 : Int} {a1_3 : Int} {a2_0 : Int} {a2_1 : Int} {a2_2 : Int} {a2_3 : Bool} {r1 : Int} {r2 : Int} {r3 : Int} {r4 : Bool} {r5 : Bool} (H : spec_l09Move.f k a0 a1_0 a1_1 a1_2 a1_3 a2_0 a2_1 a2_2 a2_3 = some (r1, r2, r3, r4, r5)) :
    CSem Try.prog Vs 28 [.lf (ii a0), .agg [ii a1_0, ii a1_1, ii a1_2, ii a1_3], .agg [ii a2_0, ii a2_1, ii a2_2, .bool a2_3]] [.agg [ii r1, ii r2, ii r3, .bool r4], .lf (.bool r5)] [] := by
  have c0_ := @spec_l01Of.sem
  have c1_ := @spec_l01Power.sem
  have c2_ := @spec_l01Val.sem
  refine fs_ Try.f28 ?_
  intro G go sub
  have hs : ∀ kk : Nat, (∀ (x0 x9 x10 x11 x12 : Int) (x13 : Bool) (x371000 x371001 x371002 x371003 x372000 x372001 x372002 : Int) (x372003 : Bool) (x373000 x373001 x373002 : Int) (x373003 : Bool) (H : spec_l09Move.j0 kk x0 x9 x10 x11 x12 x13 x371000 x371001 x371002 x371003 x372000 x372001 x372002 x372003 = some (r1, r2, r3, r4, r5)), G (contAt Try.f28 [1, 1, 1, 1, 1, 0]) (hdSt [(0, ai x0), (4, ap 4), (5, ap 5), (6, ap 6), (9, ai x9), (10, ai x10), (11, ai x11), (12, ai x12), (13, al (.bool x13))] [(4, 26, [ii x371000, ii x371001, ii x371002, ii x371003]), (5, 30, [ii x372000, ii x372001, ii x372002, .bool x372003]), (6, 30, [ii x373000, ii x373001, ii x373002, .bool x373003])])) := by
    intro kk
    induction kk with
    | zero => (intros; rename_i H; cases H)
    | succ kk ih =>
    have i0 := ih
    intros; rename_i H; simp only [spec_l09Move.j0] at H; refine go _ _ ?_; exact run_
  have i0 := fun kk => (hs kk)
  simp only [spec_l09Move.f] at H; refine go _ _ ?_; exact run_
end Go.Proofs.Ytghebmhlbhmgeaa.QS
