-- Written by a program of this session out of Lean's own print of the loaded program; Lean checks it.
import Derived.Test.YtojpcbbmbnmchaaQBx0
import Derived.Test.YtojpcbbmbnmchaaQBx31
import Derived.Test.YtojpcbbmbnmchaaQBx32
import Derived.Test.YtojpcbbmbnmchaaQBx35
namespace Go.Proofs.Ytojpcbbmbnmchaa.QB
open Go.RowKit Go.Proofs.YtojpcbbmbnmchaaW.PrintWords Go.Proofs.YtojpcbbmbnmchaaW.PrintLast Go.Proofs.YtojpcbbmbnmchaaW.PrintMore
attribute [local go_sem] isSome_setCell max2_int min2_int max_two min_two max_three min_three max_four min_four   -- for this text's walks alone
set_option linter.unusedVariables false
set_option linter.unusedSimpArgs false

/-! ### impl_times: function 98 -/
def impl_times.f (k : Nat) (a0 : Int) (a1 : Int) (a2 : Int) : Option (Int) := (impl_mod.f a0 a2).bind fun t201 => ((impl_mod.f a1 a2).bind fun t202 => ((bits_Mul64.f (IntKind.u64.wrap (t201)) (IntKind.u64.wrap (t202))).bind fun bt203 => (if (IntKind.u64.wrap (a2)) = 0 then (none) else ((bits_Div64.f k (Int.tmod bt203.1 (IntKind.u64.wrap (a2))) bt203.2 (IntKind.u64.wrap (a2))).bind fun bt205 => (some (wrap64 (bt205.2)))))))
set_option maxHeartbeats 8000000 in
set_option maxRecDepth 100000 in
theorem impl_times.calls (k : Nat) (a0 : Int) (a1 : Int) (a2 : Int) (r : Int) (w : World) (h : impl_times.f k a0 a1 a2 = some r) :
  Calls Try.prog 98 #[.int .i64 a0, .int .i64 a1, .int .i64 a2] w fun e w' => e = .returned (.int .i64 r) ∧ Drawn0 w w' := by
 have H : ((impl_mod.f a0 a2).bind fun t201 => ((impl_mod.f a1 a2).bind fun t202 => ((bits_Mul64.f (IntKind.u64.wrap (t201)) (IntKind.u64.wrap (t202))).bind fun bt203 => (if (IntKind.u64.wrap (a2)) = 0 then (none) else ((bits_Div64.f k (Int.tmod bt203.1 (IntKind.u64.wrap (a2))) bt203.2 (IntKind.u64.wrap (a2))).bind fun bt205 => (some (wrap64 (bt205.2)))))))) = some r := h
 clear h
 replace H := Option.bind_eq_some_iff.mp H
 obtain ⟨t201, A40, H⟩ := H
 replace H : ((impl_mod.f a1 a2).bind fun t202 => ((bits_Mul64.f (IntKind.u64.wrap (t201)) (IntKind.u64.wrap (t202))).bind fun bt203 => (if (IntKind.u64.wrap (a2)) = 0 then (none) else ((bits_Div64.f k (Int.tmod bt203.1 (IntKind.u64.wrap (a2))) bt203.2 (IntKind.u64.wrap (a2))).bind fun bt205 => (some (wrap64 (bt205.2))))))) = some r := H
 have A4 := Aside0.mk A40
 clear A40
 replace H := Option.bind_eq_some_iff.mp H
 obtain ⟨t202, A50, H⟩ := H
 replace H : ((bits_Mul64.f (IntKind.u64.wrap (t201)) (IntKind.u64.wrap (t202))).bind fun bt203 => (if (IntKind.u64.wrap (a2)) = 0 then (none) else ((bits_Div64.f k (Int.tmod bt203.1 (IntKind.u64.wrap (a2))) bt203.2 (IntKind.u64.wrap (a2))).bind fun bt205 => (some (wrap64 (bt205.2)))))) = some r := H
 have A5 := Aside0.mk A50
 clear A50
 replace H := Option.bind_eq_some_iff.mp H
 obtain ⟨⟨t203, t204⟩, A60, H⟩ := H
 replace H : (if (IntKind.u64.wrap (a2)) = 0 then (none) else ((bits_Div64.f k (Int.tmod t203 (IntKind.u64.wrap (a2))) t204 (IntKind.u64.wrap (a2))).bind fun bt205 => (some (wrap64 (bt205.2))))) = some r := H
 have A6 := Aside0.mk A60
 clear A60
 by_cases c7 : (IntKind.u64.wrap (a2)) = 0
 ·rw [if_pos c7] at H
  exact absurd H (by simp)
 ·rw [if_neg c7] at H
  have c7b0 : ((IntKind.u64.wrap (a2)) == 0) = false := beq_eq_false_iff_ne.mpr c7
  have c7b1 : ((IntKind.u64.wrap (a2)) != 0) = true := bne_iff_ne.mpr c7
  replace H := Option.bind_eq_some_iff.mp H
  obtain ⟨⟨t205, t206⟩, A80, H⟩ := H
  replace H : (some (wrap64 (t206))) = some r := H
  have A8 := Aside0.mk A80
  clear A80
  obtain rfl := Option.some.inj H
  go_enter Try.func98, Try.ntmps98
  go_wp2_with (first | ((with_reducible refine gate_callee (f := 114) rfl ?_); refine goesL_ (some 14) rfl rfl Try.func114 (by kernel_rfl) rfl #[.int .i64 a0, .int .i64 a2] rfl (by (try simp only [List.map_toArray, List.map_cons, List.map_nil]); first | done | rfl | (simp only [List.length_drop, List.length_take]; rfl)) ?_; (with_reducible refine (impl_mod.calls a0 a2 t201 _ A4.out).mono ?_); rintro e w' ⟨rfl, ⟨nd, rfl⟩⟩; refine ⟨_, rfl, ?_⟩) | ((with_reducible refine gate_callee (f := 114) rfl ?_); refine goesL_ (some 18) rfl rfl Try.func114 (by kernel_rfl) rfl #[.int .i64 a1, .int .i64 a2] rfl (by (try simp only [List.map_toArray, List.map_cons, List.map_nil]); first | done | rfl | (simp only [List.length_drop, List.length_take]; rfl)) ?_; (with_reducible refine (impl_mod.calls a1 a2 t202 _ A5.out).mono ?_); rintro e w' ⟨rfl, ⟨nd, rfl⟩⟩; refine ⟨_, rfl, ?_⟩) | ((with_reducible refine gate_callee (f := 113) rfl ?_); refine goesL_ (some 20) rfl rfl Try.func113 (by kernel_rfl) rfl #[.int .u64 (IntKind.u64.wrap (t201)), .int .u64 (IntKind.u64.wrap (t202))] rfl (by (try simp only [List.map_toArray, List.map_cons, List.map_nil]); first | done | rfl | (simp only [List.length_drop, List.length_take]; rfl)) ?_; (with_reducible refine (bits_Mul64.calls (IntKind.u64.wrap (t201)) (IntKind.u64.wrap (t202)) t203 t204 _ A6.out).mono ?_); rintro e w' ⟨rfl, ⟨nd, rfl⟩⟩; refine ⟨_, rfl, ?_⟩) | ((with_reducible refine gate_callee (f := 115) rfl ?_); refine goesL_ (some 31) rfl rfl Try.func115 (by kernel_rfl) rfl #[.int .u64 (Int.tmod t203 (IntKind.u64.wrap (a2))), .int .u64 t204, .int .u64 (IntKind.u64.wrap (a2))] rfl (by (try simp only [List.map_toArray, List.map_cons, List.map_nil]); first | done | rfl | (simp only [List.length_drop, List.length_take]; rfl)) ?_; (with_reducible refine (bits_Div64.calls k (Int.tmod t203 (IntKind.u64.wrap (a2))) t204 (IntKind.u64.wrap (a2)) t205 t206 _ A8.out).mono ?_); rintro e w' ⟨rfl, ⟨nd, rfl⟩⟩; refine ⟨_, rfl, ?_⟩))
  go_ret
  exact ⟨by first | rfl | (simp; done) | (simp [*]; done) | (simp [wrap64]; done), by repeat (first | exact Drawn0.refl _ | apply Drawn0.step)⟩

end Go.Proofs.Ytojpcbbmbnmchaa.QB
