/- The functions' contracts, by the evaluator. No condition. -/
import Derived.Test.YtghebmhlbhmgeaaTXg9
set_option linter.unusedVariables false
set_option linter.unusedSimpArgs false
set_option maxRecDepth 100000
set_option maxHeartbeats 4000000
namespace Go.Proofs.Ytghebmhlbhmgeaa.QS
open Go.RowKit Go.Proofs.YtghebmhlbhmgeaaW.PrintWords Go.Proofs.YtghebmhlbhmgeaaW.PrintLast Go.Proofs.YtghebmhlbhmgeaaW.PrintMore Go.Tx
theorem laws_FnSides.cal {k : Nat} {l0 : List Int} {r : Bool} (H : laws_FnSides.f k l0 = some r) :
    CCal Try.prog Vs 3 [.lf (.row .kept (.int .u8) l0)] [.lf (.bool r)] [] := by
  have c0_ := @laws_big.sem
  have k0_ := @spec_DrawMoveSide.sem
  have c1_ := @impl_MoveSide.sem
  have c2_ := @spec_MoveSide.sem
  have c3_ := @impl_MoveEnd.sem
  have c4_ := @impl_SideHas.sem
  have k1_ := @spec_DrawPairedMover.sem
  have c5_ := @impl_PairedMover.sem
  have c6_ := @spec_PairedMover.sem
  have c7_ := @impl_IsFree.sem
  have k2_ := @spec_DrawSideHas.sem
  have c8_ := @spec_SideHas.sem
  have k3_ := @spec_DrawAreApartSides.sem
  have c9_ := @impl_AreApartSides.sem
  have c10_ := @spec_AreApartSides.sem
  refine fc_ Try.f3 ?_
  intro G go sub
  have hs : ∀ kk : Nat, (∀ (x0 : List Int) (x3 x7 : Int) (x75 : Bool) (x908000 x908001 x908002 x908003 x909000 x909001 x909002 : Int) (x909003 : Bool) (x915000 x915001 x915002 : Int) (x915003 : Bool) (x921000 x921001 x921002 : Int) (x921003 : Bool) (H : laws_FnSides.j0 kk x0 x3 x7 x75 x908000 x908001 x908002 x908003 x909000 x909001 x909002 x909003 x915000 x915001 x915002 x915003 = some r), G (contAt Try.f3 [1, 1, 1, 1, 1, 0, 0]) (hdSt [(0, al (.row .kept (.int .u8) x0)), (3, ai x3), (4, ap 4), (5, ap 5), (6, ap 6), (7, ai x7), (8, ap 8), (75, al (.bool x75))] [(4, 26, [ii x908000, ii x908001, ii x908002, ii x908003]), (5, 30, [ii x909000, ii x909001, ii x909002, .bool x909003]), (6, 30, [ii x915000, ii x915001, ii x915002, .bool x915003]), (8, 30, [ii x921000, ii x921001, ii x921002, .bool x921003])])) ∧ (∀ (x0 : List Int) (x908000 x908001 x908002 x908003 x909000 x909001 x909002 : Int) (x909003 : Bool) (x915000 x915001 x915002 : Int) (x915003 : Bool) (H : laws_FnSides.j3 kk x0 = some r), G (contAt Try.f3 [1, 1, 1, 1, 1, 1, 0, 1]) (hdSt [(0, al (.row .kept (.int .u8) x0)), (4, ap 4), (5, ap 5), (6, ap 6)] [(4, 26, [ii x908000, ii x908001, ii x908002, ii x908003]), (5, 30, [ii x909000, ii x909001, ii x909002, .bool x909003]), (6, 30, [ii x915000, ii x915001, ii x915002, .bool x915003])])) ∧ (∀ (x0 : List Int) (x21 x25 : Int) (x184 : Bool) (x949000 x949001 x949002 x950000 x950001 x950002 x956000 x956001 x956002 x956003 x962000 x962001 x962002 x962003 : Int) (H : laws_FnSides.j4 kk x0 x21 x25 x184 x949000 x949001 x949002 x950000 x950001 x950002 x956000 x956001 x956002 x956003 = some r), G (contAt Try.f3 [1, 1, 1, 1, 1, 1, 1, 1, 1, 1, 0, 0]) (hdSt [(0, al (.row .kept (.int .u8) x0)), (21, ai x21), (22, ap 22), (23, ap 23), (24, ap 24), (25, ai x25), (26, ap 26), (184, al (.bool x184))] [(22, 28, [ii x949000, ii x949001, ii x949002]), (23, 28, [ii x950000, ii x950001, ii x950002]), (24, 26, [ii x956000, ii x956001, ii x956002, ii x956003]), (26, 26, [ii x962000, ii x962001, ii x962002, ii x962003])])) ∧ (∀ (x0 : List Int) (H : laws_FnSides.j5 kk x0 = some r), G (contAt Try.f3 [1, 1, 1, 1, 1, 1, 1, 1, 1, 1, 1, 0, 1]) (hdSt [(0, al (.row .kept (.int .u8) x0))] [])) ∧ (∀ (x0 : List Int) (x3 : Int) (x105 : Bool) (x908000 x908001 x908002 x908003 x909000 x909001 x909002 : Int) (x909003 : Bool) (x915000 x915001 x915002 : Int) (x915003 : Bool) (x928000 x928001 x928002 : Int) (x928003 : Bool) (H : laws_FnSides.j1 kk x0 x3 x105 x908000 x908001 x908002 x908003 x909000 x909001 x909002 x909003 x915000 x915001 x915002 x915003 = some r), G (contAt Try.f3 [1, 1, 1, 1, 1, 1, 0, 1, 0, 1, 1, 1, 0, 0]) (hdSt [(0, al (.row .kept (.int .u8) x0)), (3, ai x3), (4, ap 4), (5, ap 5), (6, ap 6), (11, ap 11), (105, al (.bool x105))] [(4, 26, [ii x908000, ii x908001, ii x908002, ii x908003]), (5, 30, [ii x909000, ii x909001, ii x909002, .bool x909003]), (6, 30, [ii x915000, ii x915001, ii x915002, .bool x915003]), (11, 30, [ii x928000, ii x928001, ii x928002, .bool x928003])])) ∧ (∀ (x0 : List Int) (x3 : Int) (x13 : List (S36)) (x14 x908000 x908001 x908002 x908003 x909000 x909001 x909002 : Int) (x909003 : Bool) (x915000 x915001 x915002 : Int) (x915003 : Bool) (H : laws_FnSides.l0 kk x0 x3 x13 x14 x908000 x908001 x908002 x908003 x909000 x909001 x909002 x909003 x915000 x915001 x915002 x915003 = some r), G (loopAt Try.f3 [1, 1, 1, 1, 1, 1, 0, 1, 0, 1, 1, 1, 1, 1, 1, 0]) (hdSt [(0, al (.row .kept (.int .u8) x0)), (3, ai x3), (4, ap 4), (5, ap 5), (6, ap 6), (13, .own 13 36 (.nam 4) x13), (14, ai x14)] [(4, 26, [ii x908000, ii x908001, ii x908002, ii x908003]), (5, 30, [ii x909000, ii x909001, ii x909002, .bool x909003]), (6, 30, [ii x915000, ii x915001, ii x915002, .bool x915003])])) := by
    intro kk
    induction kk with
    | zero => refine ⟨?_, ?_, ?_, ?_, ?_, ?_⟩ <;> (intros; rename_i H; cases H)
    | succ kk ih =>
    obtain ⟨i0, i1, i2, i3, i4, i5⟩ := ih
    refine ⟨?_, ?_, ?_, ?_, ?_, ?_⟩
    · intros; rename_i H; simp only [laws_FnSides.j0] at H; refine go _ _ ?_; exact run_
    · intros; rename_i H; simp only [laws_FnSides.j3] at H; refine go _ _ ?_; exact run_
    · intros; rename_i H; simp only [laws_FnSides.j4] at H; refine go _ _ ?_; exact run_
    · intros; rename_i H; simp only [laws_FnSides.j5] at H; refine go _ _ ?_; exact run_
    · intros; rename_i H; simp only [laws_FnSides.j1] at H; refine go _ _ ?_; exact run_
    · intros; rename_i H; simp only [laws_FnSides.l0] at H; refine go _ _ ?_; exact run_
  have i0 := fun kk => (hs kk).1
  have i1 := fun kk => (hs kk).2.1
  have i2 := fun kk => (hs kk).2.2.1
  have i3 := fun kk => (hs kk).2.2.2.1
  have i4 := fun kk => (hs kk).2.2.2.2.1
  have i5 := fun kk => (hs kk).2.2.2.2.2
  simp only [laws_FnSides.f] at H; refine go _ _ ?_; exact run_
end Go.Proofs.Ytghebmhlbhmgeaa.QS
