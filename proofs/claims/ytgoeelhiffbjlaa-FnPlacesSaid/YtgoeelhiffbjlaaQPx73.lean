import Derived.Test.YtgoeelhiffbjlaaQPx9
import Derived.Test.YtgoeelhiffbjlaaQPx20
import Derived.Test.YtgoeelhiffbjlaaQPx44
import Derived.Test.YtgoeelhiffbjlaaQPx71
namespace Go.Proofs.Ytgoeelhiffbjlaa.QP
set_option maxHeartbeats 8000000
set_option maxRecDepth 100000
open Go.RowKit Go.Proofs.YtgoeelhiffbjlaaW.PrintWords Go.Proofs.YtgoeelhiffbjlaaW.PrintLast Go.Proofs.YtgoeelhiffbjlaaW.PrintMore
attribute [local go_sem] isSome_setCell max2_int min2_int max_two min_two max_three min_three max_four min_four
set_option linter.unusedVariables false
set_option linter.unusedSimpArgs false

/-! ### spec_l07Code: function 130 -/
def spec_l07Code.f (k : Nat) (a0 a1 : Int) : Option (Int) := (spec_l01Prime.f a0).bind fun t643 => (if t643 = true then ((spec_l01In.f a1 0 4).bind fun t644 => (if t644 = true then ((spec_l07Size.f k a0 a1).bind fun t645 => (if t645 > 500 then (some 3) else (some 0))) else (some 2))) else (some 1))
theorem spec_l07Code.calls (k : Nat) (a0 a1 r : Int) (w : World) (h : spec_l07Code.f k a0 a1 = some r) :
  Calls Try.prog 130 #[.int .i64 a0, .int .i64 a1] w fun e w' => e = .returned (.int .i64 r) ∧ Drawn0 w w' := by
 unfold spec_l07Code.f at h
 have H := h
 clear h
 replace H := oc_ H
 obtain ⟨t643, A3, H⟩ := H
 replace H := ib_ H
 rcases H with ⟨rfl, H⟩ | ⟨rfl, H⟩
 ·replace H := oc_ H
  obtain ⟨t644, A5, H⟩ := H
  replace H := ib_ H
  rcases H with ⟨rfl, H⟩ | ⟨rfl, H⟩
  ·replace H := oc_ H
   obtain ⟨t645, A7, H⟩ := H
   replace H := ig_ H
   rcases H with ⟨c8b0, H⟩ | ⟨c8b0, H⟩
   ·obtain rfl := si_ H
    go_enter Try.func130, Try.ntmps130
    go_wp2_with (first | ((refine gc_ 121 ?_); refine ge_ 7 Try.func121 #[.int .i64 a0] ?_; (with_reducible refine (spec_l01Prime.calls a0 true _ A3.out).mono ?_); rintro e w' ⟨rfl, ⟨nd, rfl⟩⟩; refine ⟨_, rfl, ?_⟩) | ((refine gc_ 109 ?_); refine ge_ 11 Try.func109 #[.int .i64 a1, .int .i64 0, .int .i64 4] ?_; (with_reducible refine (spec_l01In.calls a1 0 4 true _ A5.out).mono ?_); rintro e w' ⟨rfl, ⟨nd, rfl⟩⟩; refine ⟨_, rfl, ?_⟩) | ((refine gc_ 131 ?_); refine ge_ 16 Try.func131 #[.int .i64 a0, .int .i64 a1] ?_; (with_reducible refine (spec_l07Size.calls k a0 a1 t645 _ A7.out).mono ?_); rintro e w' ⟨rfl, ⟨nd, rfl⟩⟩; refine ⟨_, rfl, ?_⟩))
    go_ret
    exact ⟨en_, de_⟩
   obtain rfl := si_ H
   go_enter Try.func130, Try.ntmps130
   go_wp2_with (first | ((refine gc_ 121 ?_); refine ge_ 7 Try.func121 #[.int .i64 a0] ?_; (with_reducible refine (spec_l01Prime.calls a0 true _ A3.out).mono ?_); rintro e w' ⟨rfl, ⟨nd, rfl⟩⟩; refine ⟨_, rfl, ?_⟩) | ((refine gc_ 109 ?_); refine ge_ 11 Try.func109 #[.int .i64 a1, .int .i64 0, .int .i64 4] ?_; (with_reducible refine (spec_l01In.calls a1 0 4 true _ A5.out).mono ?_); rintro e w' ⟨rfl, ⟨nd, rfl⟩⟩; refine ⟨_, rfl, ?_⟩) | ((refine gc_ 131 ?_); refine ge_ 16 Try.func131 #[.int .i64 a0, .int .i64 a1] ?_; (with_reducible refine (spec_l07Size.calls k a0 a1 t645 _ A7.out).mono ?_); rintro e w' ⟨rfl, ⟨nd, rfl⟩⟩; refine ⟨_, rfl, ?_⟩))
   go_ret
   exact ⟨en_, de_⟩
  obtain rfl := si_ H
  go_enter Try.func130, Try.ntmps130
  go_wp2_with (first | ((refine gc_ 121 ?_); refine ge_ 7 Try.func121 #[.int .i64 a0] ?_; (with_reducible refine (spec_l01Prime.calls a0 true _ A3.out).mono ?_); rintro e w' ⟨rfl, ⟨nd, rfl⟩⟩; refine ⟨_, rfl, ?_⟩) | ((refine gc_ 109 ?_); refine ge_ 11 Try.func109 #[.int .i64 a1, .int .i64 0, .int .i64 4] ?_; (with_reducible refine (spec_l01In.calls a1 0 4 false _ A5.out).mono ?_); rintro e w' ⟨rfl, ⟨nd, rfl⟩⟩; refine ⟨_, rfl, ?_⟩))
  go_ret
  exact ⟨en_, de_⟩
 obtain rfl := si_ H
 go_enter Try.func130, Try.ntmps130
 go_wp2_with (first | ((refine gc_ 121 ?_); refine ge_ 7 Try.func121 #[.int .i64 a0] ?_; (with_reducible refine (spec_l01Prime.calls a0 false _ A3.out).mono ?_); rintro e w' ⟨rfl, ⟨nd, rfl⟩⟩; refine ⟨_, rfl, ?_⟩))
 go_ret
 exact ⟨en_, de_⟩
/-! ### spec_RegionSize: function 57 -/
def spec_RegionSize.f (k : Nat) (a0 a1 : Int) : Option (Int × Int) := (spec_l07Code.f k a0 a1).bind fun t646 => (if t646 = 0 then ((spec_l07Size.f k a0 a1).bind fun t647 => (some (t647, 0))) else (some (0, t646)))
theorem spec_RegionSize.calls (k : Nat) (a0 a1 r1 r2 : Int) (w : World) (h : spec_RegionSize.f k a0 a1 = some (r1, r2)) :
  Calls Try.prog 57 #[.int .i64 a0, .int .i64 a1] w fun e w' => e = .returned (.tuple #[.int .i64 r1, .int .i64 r2]) ∧ Drawn0 w w' := by
 unfold spec_RegionSize.f at h
 have H := h
 clear h
 replace H := oc_ H
 obtain ⟨t646, A3, H⟩ := H
 replace H := ie_ H
 rcases H with ⟨c4b0, c4b1, H⟩ | ⟨c4, c4b0, c4b1, H⟩
 ·replace H := oc_ H
  obtain ⟨t647, A5, H⟩ := H
  simp only [Option.some.injEq, Prod.mk.injEq] at H
  obtain ⟨rfl, rfl⟩ := H
  go_enter Try.func57, Try.ntmps57
  go_wp2_with (first | ((refine gc_ 130 ?_); refine ge_ 9 Try.func130 #[.int .i64 a0, .int .i64 a1] ?_; (with_reducible refine (spec_l07Code.calls k a0 a1 t646 _ A3.out).mono ?_); rintro e w' ⟨rfl, ⟨nd, rfl⟩⟩; refine ⟨_, rfl, ?_⟩) | ((refine gc_ 131 ?_); refine ge_ 15 Try.func131 #[.int .i64 a0, .int .i64 a1] ?_; (with_reducible refine (spec_l07Size.calls k a0 a1 t647 _ A5.out).mono ?_); rintro e w' ⟨rfl, ⟨nd, rfl⟩⟩; refine ⟨_, rfl, ?_⟩))
  go_ret2
  exact ⟨en_, de_⟩
 simp only [Option.some.injEq, Prod.mk.injEq] at H
 obtain ⟨rfl, rfl⟩ := H
 go_enter Try.func57, Try.ntmps57
 go_wp2_with (first | ((refine gc_ 130 ?_); refine ge_ 9 Try.func130 #[.int .i64 a0, .int .i64 a1] ?_; (with_reducible refine (spec_l07Code.calls k a0 a1 t646 _ A3.out).mono ?_); rintro e w' ⟨rfl, ⟨nd, rfl⟩⟩; refine ⟨_, rfl, ?_⟩))
 go_ret2
 exact ⟨en_, de_⟩
end Go.Proofs.Ytgoeelhiffbjlaa.QP
