/- The functions' contracts, by the evaluator. No condition. -/
import Derived.Test.YtanckmepopmjkabGreatTXg5
set_option linter.unusedVariables false
set_option linter.unusedSimpArgs false
set_option maxRecDepth 100000
set_option maxHeartbeats 4000000
namespace Go.Proofs.YtanckmepopmjkabGreat.QW
open Go.RowKit Go.Proofs.YtanckmepopmjkabGreatW.PrintWords Go.Proofs.YtanckmepopmjkabGreatW.PrintLast Go.Proofs.YtanckmepopmjkabGreatW.PrintMore Go.Tx
theorem impl_SideOfWord.sem {k : Nat} {a0 : Int} {l1 : List (S47)} {l2 : List (S32)} {l3 : List Int} {r1 : Int} {r2 : Int} {r3 : Int} {r4 : Bool} {r5 : Int} (H : impl_SideOfWord.f k a0 l1 l2 l3 = some (r1, r2, r3, r4, r5)) :
    CSem Tryz.prog Vs 6 [.lf (ii a0), .lf (.row .lent (.nam 1) l1), .lf (.row .lent (.nam 3) l2), .lf (.row .lent (.int .i64) l3)] [.agg [ii r1, ii r2, ii r3, .bool r4], .lf (ii r5)] [] := by
  have c0_ := @impl_freeCode.sem
  have c1_ := @impl_isWord.sem
  have c2_ := @impl_isShort.sem
  have c3_ := @impl_letterSide.sem
  have c4_ := @impl_moveSide.sem
  have c5_ := @impl_letterMatrix.sem
  refine fs_ Tryz.f6 ?_
  intro G go sub seal_
  have hs : ∀ kk : Nat, (∀ (x0 : Int) (x1 : List (S47)) (x2 : List (S32)) (x3 : List Int) (x10 : Bool) (x11 : Int) (x29 : Bool) (x562000 x562001 x562002 : Int) (x562003 : Bool) (H : impl_SideOfWord.j0 kk x0 x1 x2 x3 x10 x11 x29 = some (r1, r2, r3, r4, r5)), G (contAt Tryz.f6 [1, 1, 0, 0]) (hdSt [(0, ai x0), (1, al (.row .lent (.nam 1) x1)), (2, al (.row .lent (.nam 3) x2)), (3, al (.row .lent (.int .i64) x3)), (8, ap 8), (10, al (.bool x10)), (11, ai x11), (29, al (.bool x29))] [(8, 32, [ii x562000, ii x562001, ii x562002, .bool x562003])])) ∧ (∀ (x0 : Int) (x1 : List (S47)) (x3 : List Int) (x14 x562000 x562001 x562002 : Int) (x562003 : Bool) (x572000 x572001 x572002 : Int) (x572003 : Bool) (H : impl_SideOfWord.l0 kk x0 x1 x3 x14 x572000 x572001 x572002 x572003 = some (r1, r2, r3, r4, r5)), G (loopAt Tryz.f6 [1, 1, 1, 1, 1, 1, 0, 1, 0]) (hdSt [(0, ai x0), (1, al (.row .lent (.nam 1) x1)), (3, al (.row .lent (.int .i64) x3)), (8, ap 8), (13, ap 13), (14, ai x14)] [(8, 32, [ii x562000, ii x562001, ii x562002, .bool x562003]), (13, 32, [ii x572000, ii x572001, ii x572002, .bool x572003])])) := by
    intro kk
    induction kk with
    | zero => refine ⟨?_, ?_⟩ <;> (intros; rename_i H; cases H)
    | succ kk ih =>
    obtain ⟨i0, i1⟩ := ih
    refine ⟨?_, ?_⟩
    · intros; rename_i H; simp only [impl_SideOfWord.j0] at H; refine go _ _ ?_; exact run_
    · intros; rename_i H; simp only [impl_SideOfWord.l0] at H; refine go _ _ ?_; exact run_
  have i0 := fun kk => (hs kk).1
  have i1 := fun kk => (hs kk).2
  simp only [impl_SideOfWord.f] at H; refine go _ _ ?_; exact run_
theorem spec_l04Is.sem {k : Nat} {a0_0 : Int} {a0_1 : Int} {a0_2 : Int} {a0_3 : Int} {r : Bool} (H : spec_l04Is.f k a0_0 a0_1 a0_2 a0_3 = some r) :
    CSem Tryz.prog Vs 64 [.agg [ii a0_0, ii a0_1, ii a0_2, ii a0_3]] [.lf (.bool r)] [] := by
  have c0_ := @spec_l01In.sem
  have c1_ := @spec_l04Det.sem
  refine fs_ Tryz.f64 ?_
  intro G go sub seal_
  have hs : ∀ kk : Nat, (∀ (x3 x584000 x584001 x584002 x584003 : Int) (H : spec_l04Is.l0 kk x3 x584000 x584001 x584002 x584003 = some r), G (loopAt Tryz.f64 [1, 0, 1, 0]) (hdSt [(1, ap 1), (3, ai x3)] [(1, 47, [ii x584000, ii x584001, ii x584002, ii x584003])])) ∧ (∀ (x3 x4 x584000 x584001 x584002 x584003 : Int) (H : spec_l04Is.l1 kk x3 x4 x584000 x584001 x584002 x584003 = some r), G (loopAt Tryz.f64 [1, 0, 1, 0, 0, 1, 0, 0, 1, 0]) (hdSt [(1, ap 1), (3, ai x3), (4, ai x4)] [(1, 47, [ii x584000, ii x584001, ii x584002, ii x584003])])) := by
    intro kk
    induction kk with
    | zero => refine ⟨?_, ?_⟩ <;> (intros; rename_i H; cases H)
    | succ kk ih =>
    obtain ⟨i0, i1⟩ := ih
    refine ⟨?_, ?_⟩
    · intros; rename_i H; simp only [spec_l04Is.l0] at H; refine go _ _ ?_; exact run_
    · intros; rename_i H; simp only [spec_l04Is.l1] at H; refine go _ _ ?_; exact run_
  have i0 := fun kk => (hs kk).1
  have i1 := fun kk => (hs kk).2
  simp only [spec_l04Is.f] at H; refine go _ _ ?_; exact run_
theorem spec_l01Prime.sem {a0 : Int} {r : Bool} (H : spec_l01Prime.f a0 = some r) :
    CSem Tryz.prog Vs 103 [.lf (ii a0)] [.lf (.bool r)] [] := by
  refine fs_ Tryz.f103 ?_
  intro G go sub seal_
  simp only [spec_l01Prime.f] at H; refine go _ _ ?_; exact run_
theorem spec_l01Is.sem {k : Nat} {a0 : Int} {a1_0 : Int} {a1_1 : Int} {a1_2 : Int} {r : Bool} (H : spec_l01Is.f k a0 a1_0 a1_1 a1_2 = some r) :
    CSem Tryz.prog Vs 104 [.lf (ii a0), .agg [ii a1_0, ii a1_1, ii a1_2]] [.lf (.bool r)] [] := by
  have c0_ := @spec_l01In.sem
  have c1_ := @spec_l01Power.sem
  have c2_ := @spec_l01Prime.sem
  refine fs_ Tryz.f104 ?_
  intro G go sub seal_
  have hs : ∀ kk : Nat, (∀ (x0 : Int) (x20 : Bool) (x590000 x590001 x590002 : Int) (H : spec_l01Is.j0 kk x0 x20 x590000 x590001 x590002 = some r), G (contAt Tryz.f104 [1, 0, 0]) (hdSt [(0, ai x0), (3, ap 3), (20, al (.bool x20))] [(3, 30, [ii x590000, ii x590001, ii x590002])])) := by
    intro kk
    induction kk with
    | zero => (intros; rename_i H; cases H)
    | succ kk ih =>
    have i0 := ih
    intros; rename_i H; simp only [spec_l01Is.j0] at H; refine go _ _ ?_; exact run_
  have i0 := fun kk => (hs kk)
  simp only [spec_l01Is.f] at H; refine go _ _ ?_; exact run_
theorem spec_l09Code.sem {k : Nat} {a0 : Int} {l1 : List (S32)} {r : Int} (H : spec_l09Code.f k a0 l1 = some r) :
    CSem Tryz.prog Vs 77 [.lf (ii a0), .lf (.row .lent (.nam 3) l1)] [.lf (ii r)] [] := by
  have c0_ := @spec_l01Prime.sem
  have c1_ := @spec_l01Is.sem
  refine fs_ Tryz.f77 ?_
  intro G go sub seal_
  have hs : ∀ kk : Nat, (∀ (x0 : Int) (x1 : List (S32)) (x5 : Int) (H : spec_l09Code.l0 kk x0 x1 x5 = some r), G (loopAt Tryz.f77 [1, 1, 0, 1, 0]) (hdSt [(0, ai x0), (1, al (.row .lent (.nam 3) x1)), (5, ai x5)] [])) := by
    intro kk
    induction kk with
    | zero => (intros; rename_i H; cases H)
    | succ kk ih =>
    have i0 := ih
    intros; rename_i H; simp only [spec_l09Code.l0] at H; refine go _ _ ?_; exact run_
  have i0 := fun kk => (hs kk)
  simp only [spec_l09Code.f] at H; refine go _ _ ?_; exact run_
theorem spec_l09List.sem {k : Nat} {a0 : Int} {l1 : List (S47)} {l2 : List (S32)} {r : Int} (H : spec_l09List.f k a0 l1 l2 = some r) :
    CSem Tryz.prog Vs 35 [.lf (ii a0), .lf (.row .lent (.nam 1) l1), .lf (.row .lent (.nam 3) l2)] [.lf (ii r)] [] := by
  have c0_ := @spec_l04Is.sem
  have c1_ := @spec_l09Code.sem
  refine fs_ Tryz.f35 ?_
  intro G go sub seal_
  have hs : ∀ kk : Nat, (∀ (x1 : List (S47)) (x2 : List (S32)) (x7 : Int) (H : spec_l09List.l0 kk x1 x2 x7 = some r), G (loopAt Tryz.f35 [1, 1, 0, 1, 0]) (hdSt [(1, al (.row .lent (.nam 1) x1)), (2, al (.row .lent (.nam 3) x2)), (7, ai x7)] [])) := by
    intro kk
    induction kk with
    | zero => (intros; rename_i H; cases H)
    | succ kk ih =>
    have i0 := ih
    intros; rename_i H; simp only [spec_l09List.l0] at H; refine go _ _ ?_; exact run_
  have i0 := fun kk => (hs kk)
  simp only [spec_l09List.f] at H; refine go _ _ ?_; exact run_
theorem spec_l09Word.sem {k : Nat} {a0 : Int} {l1 : List Int} {r : Bool} (H : spec_l09Word.f k a0 l1 = some r) :
    CSem Tryz.prog Vs 36 [.lf (ii a0), .lf (.row .lent (.int .i64) l1)] [.lf (.bool r)] [] := by
  have c0_ := @spec_l01In.sem
  refine fs_ Tryz.f36 ?_
  intro G go sub seal_
  have hs : ∀ kk : Nat, (∀ (x0 : Int) (x1 : List Int) (x13 : Bool) (H : spec_l09Word.j0 kk x0 x1 x13 = some r), G (contAt Tryz.f36 [1, 0, 0]) (hdSt [(0, ai x0), (1, al (.row .lent (.int .i64) x1)), (13, al (.bool x13))] [])) ∧ (∀ (x0 : Int) (x1 : List Int) (x5 : Int) (H : spec_l09Word.l0 kk x0 x1 x5 = some r), G (loopAt Tryz.f36 [1, 1, 0, 1, 0]) (hdSt [(0, ai x0), (1, al (.row .lent (.int .i64) x1)), (5, ai x5)] [])) := by
    intro kk
    induction kk with
    | zero => refine ⟨?_, ?_⟩ <;> (intros; rename_i H; cases H)
    | succ kk ih =>
    obtain ⟨i0, i1⟩ := ih
    refine ⟨?_, ?_⟩
    · intros; rename_i H; simp only [spec_l09Word.j0] at H; refine go _ _ ?_; exact run_
    · intros; rename_i H; simp only [spec_l09Word.l0] at H; refine go _ _ ?_; exact run_
  have i0 := fun kk => (hs kk).1
  have i1 := fun kk => (hs kk).2
  simp only [spec_l09Word.f] at H; refine go _ _ ?_; exact run_
end Go.Proofs.YtanckmepopmjkabGreat.QW
