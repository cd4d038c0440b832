/- The functions' contracts, by the evaluator. No condition. -/
import Derived.Test.YtanckmepopmjkabGreatTXg11
set_option linter.unusedVariables false
set_option linter.unusedSimpArgs false
set_option maxRecDepth 100000
set_option maxHeartbeats 4000000
namespace Go.Proofs.YtanckmepopmjkabGreat.QW
open Go.RowKit Go.Proofs.YtanckmepopmjkabGreatW.PrintWords Go.Proofs.YtanckmepopmjkabGreatW.PrintLast Go.Proofs.YtanckmepopmjkabGreatW.PrintMore Go.Tx
theorem laws_FnFreeWords.cal {k : Nat} {l0 : List Int} {r : Bool} (H : laws_FnFreeWords.f k l0 = some r) :
    CCal Tryz.prog Vs 3 [.lf (.row .kept (.int .u8) l0)] [.lf (.bool r)] [] := by
  have c0_ := @laws_big.sem
  have k0_ := @spec_DrawSideOfWord.sem
  have c1_ := @impl_SideOfWord.sem
  have c2_ := @spec_SideOfWord.sem
  have c3_ := @impl_AreApartSides.sem
  have k1_ := @spec_DrawBringOut.sem
  have c4_ := @impl_BringOut.sem
  have c5_ := @spec_BringOut.sem
  have c6_ := @laws_likeInts.sem
  have c7_ := @impl_IsShortWord.sem
  have c8_ := @impl_WordMatrix.sem
  have c9_ := @impl_MoveEnd.sem
  have k2_ := @spec_DrawIsFree.sem
  have c10_ := @impl_IsFree.sem
  have c11_ := @spec_IsFree.sem
  have k3_ := @spec_DrawCountShortWords.sem
  have c12_ := @impl_CountShortWords.sem
  have c13_ := @spec_CountShortWords.sem
  have k4_ := @spec_DrawIsShortWord.sem
  have c14_ := @spec_IsShortWord.sem
  have k5_ := @spec_DrawWordMatrix.sem
  have c15_ := @spec_WordMatrix.sem
  refine fc_ Tryz.f3 ?_
  intro G go sub seal_
  have q0_ := fun k s => seal_ k s 5
  have q1_ := fun k s => seal_ k s 17
  have hs : ∀ kk : Nat, (∀ (x0 : List Int) (x3 : Int) (x4 : List (S47)) (x5 : List (S32)) (x6 : List Int) (x8 : Int) (x88 : Bool) (x1040000 x1040001 x1040002 : Int) (x1040003 : Bool) (x1046000 x1046001 x1046002 : Int) (x1046003 : Bool) (H : laws_FnFreeWords.j0 kk x0 x3 x4 x5 x6 x8 x88 x1040000 x1040001 x1040002 x1040003 = some r), G (contAt Tryz.f3 [1, 1, 1, 1, 1, 0, 0]) (hdSt [(0, al (.row .kept (.int .u8) x0)), (3, ai x3), (4, .own 4 47 (.nam 1) x4), (5, al (.row .made (.nam 3) x5)), (6, .own 6 2 (.int .i64) x6), (7, ap 7), (8, ai x8), (9, ap 9), (88, al (.bool x88))] [(7, 32, [ii x1040000, ii x1040001, ii x1040002, .bool x1040003]), (9, 32, [ii x1046000, ii x1046001, ii x1046002, .bool x1046003])])) ∧ (∀ (x0 : List Int) (x3 : Int) (x4 : List (S47)) (x5 : List (S32)) (x6 : List Int) (x95 : Bool) (x1040000 x1040001 x1040002 : Int) (x1040003 : Bool) (H : laws_FnFreeWords.j1 kk x0 x3 x4 x5 x6 x95 x1040000 x1040001 x1040002 x1040003 = some r), G (contAt Tryz.f3 [1, 1, 1, 1, 1, 1, 0, 0]) (hdSt [(0, al (.row .kept (.int .u8) x0)), (3, ai x3), (4, .own 4 47 (.nam 1) x4), (5, al (.row .made (.nam 3) x5)), (6, .own 6 2 (.int .i64) x6), (7, ap 7), (95, al (.bool x95))] [(7, 32, [ii x1040000, ii x1040001, ii x1040002, .bool x1040003])])) ∧ (∀ (x0 : List Int) (H : laws_FnFreeWords.j2 kk x0 = some r), G (contAt Tryz.f3 [1, 1, 1, 1, 1, 1, 0, 1]) (hdSt [(0, al (.row .kept (.int .u8) x0))] [])) ∧ (∀ (x0 : List Int) (x16 : List (S47)) (x19 : List Int) (x21 : Int) (x165 : Bool) (x1068000 x1068001 x1075000 x1075001 x1082000 x1082001 : Int) (H : laws_FnFreeWords.j3 kk x0 x16 x19 x21 x165 x1068000 x1068001 x1075000 x1075001 = some r), G (contAt Tryz.f3 [1, 1, 1, 1, 1, 1, 1, 1, 1, 1, 0, 0]) (hdSt [(0, al (.row .kept (.int .u8) x0)), (16, .own 16 47 (.nam 1) x16), (18, ap 18), (19, .own 19 2 (.int .i64) x19), (20, ap 20), (21, ai x21), (23, ap 23), (165, al (.bool x165))] [(18, 38, [ii x1068000, ii x1068001]), (20, 38, [ii x1075000, ii x1075001]), (23, 38, [ii x1082000, ii x1082001])])) ∧ (∀ (x0 : List Int) (x1068000 x1068001 : Int) (H : laws_FnFreeWords.j5 kk x0 = some r), G (contAt Tryz.f3 [1, 1, 1, 1, 1, 1, 1, 1, 1, 1, 1, 0, 1]) (hdSt [(0, al (.row .kept (.int .u8) x0)), (18, ap 18)] [(18, 38, [ii x1068000, ii x1068001])])) ∧ (∀ (x0 : List Int) (x28 : Int) (x186 : Bool) (x1068000 x1068001 x1075000 x1075001 x1091000 x1091001 x1091002 x1091003 : Int) (H : laws_FnFreeWords.j4 kk x0 x28 x186 x1068000 x1068001 x1075000 x1075001 x1091000 x1091001 x1091002 x1091003 = some r), G (contAt Tryz.f3 [1, 1, 1, 1, 1, 1, 1, 1, 1, 1, 1, 0, 1, 0, 1, 1, 0, 0]) (hdSt [(0, al (.row .kept (.int .u8) x0)), (18, ap 18), (20, ap 20), (27, ap 27), (28, ai x28), (186, al (.bool x186))] [(18, 38, [ii x1068000, ii x1068001]), (20, 38, [ii x1075000, ii x1075001]), (27, 47, [ii x1091000, ii x1091001, ii x1091002, ii x1091003])])) := by
    intro kk
    induction kk with
    | zero => refine ⟨?_, ?_, ?_, ?_, ?_, ?_⟩ <;> (intros; rename_i H; cases H)
    | succ kk ih =>
    obtain ⟨i0, i1, i2, i3, i4, i5⟩ := ih
    refine ⟨?_, ?_, ?_, ?_, ?_, ?_⟩
    · intros; rename_i H; simp only [laws_FnFreeWords.j0] at H; refine go _ _ ?_; exact run_
    · intros; rename_i H; simp only [laws_FnFreeWords.j1] at H; refine go _ _ ?_; exact run_
    · intros; rename_i H; simp only [laws_FnFreeWords.j2] at H; refine go _ _ ?_; exact run_
    · intros; rename_i H; simp only [laws_FnFreeWords.j3] at H; refine go _ _ ?_; exact run_
    · intros; rename_i H; simp only [laws_FnFreeWords.j5] at H; refine go _ _ ?_; exact run_
    · intros; rename_i H; simp only [laws_FnFreeWords.j4] at H; refine go _ _ ?_; exact run_
  have i0 := fun kk => (hs kk).1
  have i1 := fun kk => (hs kk).2.1
  have i2 := fun kk => (hs kk).2.2.1
  have i3 := fun kk => (hs kk).2.2.2.1
  have i4 := fun kk => (hs kk).2.2.2.2.1
  have i5 := fun kk => (hs kk).2.2.2.2.2
  simp only [laws_FnFreeWords.f] at H; refine go _ _ ?_; exact run_
end Go.Proofs.YtanckmepopmjkabGreat.QW
