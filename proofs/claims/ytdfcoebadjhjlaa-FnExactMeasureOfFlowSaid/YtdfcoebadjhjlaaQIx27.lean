import Derived.Test.YtdfcoebadjhjlaaQIx5
import Derived.Test.YtdfcoebadjhjlaaQIx22
import Derived.Test.YtdfcoebadjhjlaaQIx24
namespace Go.Proofs.Ytdfcoebadjhjlaa.QI
set_option maxHeartbeats 8000000
set_option maxRecDepth 100000
open Go.RowKit Go.Proofs.YtdfcoebadjhjlaaW.PrintWords Go.Proofs.YtdfcoebadjhjlaaW.PrintLast Go.Proofs.YtdfcoebadjhjlaaW.PrintMore
attribute [local go_sem] isSome_setCell max2_int min2_int max_two min_two max_three min_three max_four min_four
set_option linter.unusedVariables false
set_option linter.unusedSimpArgs false

/-! ### spec_l01Is: function 60 -/
def spec_l01Is.j0 : Nat → Int → Bool → Int → Int → Int → Option (Bool)
 | 0, _, _, _, _, _ => none
 | k + 1, x0, x20, x160000, x160001, x160002 => if x20 = true then (some false) else (if (wrap64 (x160000 + x160002)) ≤ 0 then (if x160001 = 0 then (some (x160002 == 0)) else (some false)) else ((spec_l01Power.f k x0 (wrap64 (x160000 + x160002))).bind fun t163 => ((spec_l01In.f x160001 0 (wrap64 (t163 - 1))).bind fun t164 => (if t164 = true then (if x160002 = 0 then (some true) else (if x0 = 0 then (none) else (some ((Int.tmod x160001 x0) != 0)))) else (some false)))))
def spec_l01Is.f (k : Nat) (a0 a1_0 a1_1 a1_2 : Int) : Option (Bool) := (spec_l01Prime.f a0).bind fun t160 => (if t160 = true then ((spec_l01In.f a1_0 (-6) 6).bind fun t161 => (if t161 = true then ((spec_l01In.f a1_2 0 6).bind fun t162 => (spec_l01Is.j0 k a0 (!t162) a1_0 a1_1 a1_2)) else (spec_l01Is.j0 k a0 true a1_0 a1_1 a1_2))) else (spec_l01Is.j0 k a0 true a1_0 a1_1 a1_2))
theorem spec_l01Is.calls (k : Nat) (a0 a1_0 a1_1 a1_2 : Int) (r : Bool) (w : World) (h : spec_l01Is.f k a0 a1_0 a1_1 a1_2 = some r) :
  Calls Try.prog 60 #[.int .i64 a0, .agg #[.int .i64 a1_0, .int .i64 a1_1, .int .i64 a1_2]] w fun e w' => e = .returned (.bool r) ∧ Below w.heap.size w w' := by
 have hu31 := Try.underlying31
 have HB := Aside0.mk (Below.refl w.heap.size w)
 unfold spec_l01Is.f at h
 have H := h
 clear h
 have HC3 := Aside0.mk H
 clear H
 go_enter Try.func60, Try.ntmps60
 go_upto_region 1 with (first | ((refine gd_ 3 ?_); refine by_ 3 #[.int .i64 a1_0, .int .i64 a1_1, .int .i64 a1_2] 31 HB ?_; intro gb159 hg w4 BK159 hb GW159 HB_; replace HB := HB_; clear hb hg))
 repeat (go_quiet (first | ((refine gd_ 3 ?_); refine by_ 3 #[.int .i64 a1_0, .int .i64 a1_1, .int .i64 a1_2] 31 HB ?_; intro gb159 hg w4 BK159 hb GW159 HB_; replace HB := HB_; clear hb hg)); go_upto_region 1 with (first | ((refine gd_ 3 ?_); refine by_ 3 #[.int .i64 a1_0, .int .i64 a1_1, .int .i64 a1_2] 31 HB ?_; intro gb159 hg w4 BK159 hb GW159 HB_; replace HB := HB_; clear hb hg)))
 (try simp only [Act.put, lstS, lstZ, lstC])
 go_cut [20] (fun v20 wc => ∃ (kq : Nat) (x20_2 : Bool), v20 = .bool x20_2 ∧ Aside0 (spec_l01Is.j0 kq a0 x20_2 a1_0 a1_1 a1_2 = some r) ∧ Aside0 (kq ≤ k) ∧ Aside0 (wc.heap[gb159]? = some (.cells #[.int .i64 a1_0, .int .i64 a1_1, .int .i64 a1_2] 31 (0, 0))) ∧ Aside0 (Below w.heap.size w wc))
 case first =>
  have H := HC3.out
  clear HC3
  replace H := oc_ H
  obtain ⟨t160, A5, H⟩ := H
  replace H := ib_ H
  rcases H with ⟨rfl, H⟩ | ⟨rfl, H⟩
  ·replace H := oc_ H
   obtain ⟨t161, A7, H⟩ := H
   replace H := ib_ H
   rcases H with ⟨rfl, H⟩ | ⟨rfl, H⟩
   ·replace H := oc_ H
    obtain ⟨t162, A9, H⟩ := H
    have H' := Aside0.mk H
    clear H
    go_wp2_with (first | (go_at_call 88; (with_reducible refine (spec_l01Prime.calls a0 true _ A5.out).mono ?_); rintro e w' ⟨rfl, ⟨nd, rfl⟩⟩; (try exact dd_); obtain ⟨hcz10_0, hcz10_1, hcz10_2, hfz10_0, hfz10_1, hfz10_2⟩ := ch3_ BK159) | (go_at_call 42; (with_reducible refine (spec_l01In.calls a1_0 (-6) 6 true _ A7.out).mono ?_); rintro e w' ⟨rfl, ⟨nd, rfl⟩⟩; (try exact dd_)) | (go_at_call 42; (with_reducible refine (spec_l01In.calls a1_2 0 6 t162 _ A9.out).mono ?_); rintro e w' ⟨rfl, ⟨nd, rfl⟩⟩; (try exact dd_)))
    repeat (go_quiet (first | (go_at_call 88; (with_reducible refine (spec_l01Prime.calls a0 true _ A5.out).mono ?_); rintro e w' ⟨rfl, ⟨nd, rfl⟩⟩; (try exact dd_); obtain ⟨hcz10_0, hcz10_1, hcz10_2, hfz10_0, hfz10_1, hfz10_2⟩ := ch3_ BK159) | (go_at_call 42; (with_reducible refine (spec_l01In.calls a1_0 (-6) 6 true _ A7.out).mono ?_); rintro e w' ⟨rfl, ⟨nd, rfl⟩⟩; (try exact dd_)) | (go_at_call 42; (with_reducible refine (spec_l01In.calls a1_2 0 6 t162 _ A9.out).mono ?_); rintro e w' ⟨rfl, ⟨nd, rfl⟩⟩; (try exact dd_))); try go_wp2_with (first | (go_at_call 88; (with_reducible refine (spec_l01Prime.calls a0 true _ A5.out).mono ?_); rintro e w' ⟨rfl, ⟨nd, rfl⟩⟩; (try exact dd_); obtain ⟨hcz10_0, hcz10_1, hcz10_2, hfz10_0, hfz10_1, hfz10_2⟩ := ch3_ BK159) | (go_at_call 42; (with_reducible refine (spec_l01In.calls a1_0 (-6) 6 true _ A7.out).mono ?_); rintro e w' ⟨rfl, ⟨nd, rfl⟩⟩; (try exact dd_)) | (go_at_call 42; (with_reducible refine (spec_l01In.calls a1_2 0 6 t162 _ A9.out).mono ?_); rintro e w' ⟨rfl, ⟨nd, rfl⟩⟩; (try exact dd_))))
    go_meet
    case rel => exact ⟨_, (!t162), en_, H', ⟨by first | omega | exact Nat.le_refl _⟩, bl_ BK159, bw_ HB⟩
   have H' := Aside0.mk H
   clear H
   go_wp2_with (first | (go_at_call 88; (with_reducible refine (spec_l01Prime.calls a0 true _ A5.out).mono ?_); rintro e w' ⟨rfl, ⟨nd, rfl⟩⟩; (try exact dd_); obtain ⟨hcz11_0, hcz11_1, hcz11_2, hfz11_0, hfz11_1, hfz11_2⟩ := ch3_ BK159) | (go_at_call 42; (with_reducible refine (spec_l01In.calls a1_0 (-6) 6 false _ A7.out).mono ?_); rintro e w' ⟨rfl, ⟨nd, rfl⟩⟩; (try exact dd_)))
   repeat (go_quiet (first | (go_at_call 88; (with_reducible refine (spec_l01Prime.calls a0 true _ A5.out).mono ?_); rintro e w' ⟨rfl, ⟨nd, rfl⟩⟩; (try exact dd_); obtain ⟨hcz11_0, hcz11_1, hcz11_2, hfz11_0, hfz11_1, hfz11_2⟩ := ch3_ BK159) | (go_at_call 42; (with_reducible refine (spec_l01In.calls a1_0 (-6) 6 false _ A7.out).mono ?_); rintro e w' ⟨rfl, ⟨nd, rfl⟩⟩; (try exact dd_))); try go_wp2_with (first | (go_at_call 88; (with_reducible refine (spec_l01Prime.calls a0 true _ A5.out).mono ?_); rintro e w' ⟨rfl, ⟨nd, rfl⟩⟩; (try exact dd_); obtain ⟨hcz11_0, hcz11_1, hcz11_2, hfz11_0, hfz11_1, hfz11_2⟩ := ch3_ BK159) | (go_at_call 42; (with_reducible refine (spec_l01In.calls a1_0 (-6) 6 false _ A7.out).mono ?_); rintro e w' ⟨rfl, ⟨nd, rfl⟩⟩; (try exact dd_))))
   go_meet
   case rel => exact ⟨_, (true), en_, H', ⟨by first | omega | exact Nat.le_refl _⟩, bl_ BK159, bw_ HB⟩
  have H' := Aside0.mk H
  clear H
  go_wp2_with (first | (go_at_call 88; (with_reducible refine (spec_l01Prime.calls a0 false _ A5.out).mono ?_); rintro e w' ⟨rfl, ⟨nd, rfl⟩⟩; (try exact dd_)))
  repeat (go_quiet (first | (go_at_call 88; (with_reducible refine (spec_l01Prime.calls a0 false _ A5.out).mono ?_); rintro e w' ⟨rfl, ⟨nd, rfl⟩⟩; (try exact dd_))); try go_wp2_with (first | (go_at_call 88; (with_reducible refine (spec_l01Prime.calls a0 false _ A5.out).mono ?_); rintro e w' ⟨rfl, ⟨nd, rfl⟩⟩; (try exact dd_))))
  go_meet
  case rel => exact ⟨_, (true), en_, H', ⟨by first | omega | exact Nat.le_refl _⟩, bl_ BK159, bw_ HB⟩
 clear HC3
 try clear hcz10_0 hcz10_1 hcz10_2
 try clear hcz11_0 hcz11_1 hcz11_2
 try clear hfz10_0 hfz10_1 hfz10_2
 try clear hfz11_0 hfz11_1 hfz11_2
 obtain ⟨kq, x20_2, rfl, HA, HJ2, BK159, HB⟩ := hcut
 cases kq with
 | zero => exact absurd HA.out (by simp [spec_l01Is.j0])
 | succ kj2 =>
  have H := HA.out
  clear HA
  simp only [spec_l01Is.j0] at H
  replace H := ib_ H
  rcases H with ⟨rfl, H⟩ | ⟨rfl, H⟩
  ·obtain rfl := si_ H
   go_wp2
   repeat (go_quiet (fail); try go_wp2)
   go_ret
   exact ⟨es_, (bw_ HB).out⟩
  replace H := im_ H
  rcases H with ⟨c13b0, H⟩ | ⟨c13b0, H⟩
  ·replace H := ie_ H
   rcases H with ⟨c14b0, c14b1, H⟩ | ⟨c14, c14b0, c14b1, H⟩
   ·obtain rfl := si_ H
    obtain ⟨hcz15_0, hcz15_1, hcz15_2, hfz15_0, hfz15_1, hfz15_2⟩ := ch3_ BK159
    go_wp2
    repeat (go_quiet (fail); try go_wp2)
    go_ret
    exact ⟨es_, (bw_ HB).out⟩
   obtain rfl := si_ H
   obtain ⟨hcz16_0, hcz16_1, hcz16_2, hfz16_0, hfz16_1, hfz16_2⟩ := ch3_ BK159
   go_wp2
   repeat (go_quiet (fail); try go_wp2)
   go_ret
   exact ⟨es_, (bw_ HB).out⟩
  replace H := oc_ H
  obtain ⟨t163, A17, H⟩ := H
  replace H := oc_ H
  obtain ⟨t164, A18, H⟩ := H
  replace H := ib_ H
  rcases H with ⟨rfl, H⟩ | ⟨rfl, H⟩
  ·replace H := ie_ H
   rcases H with ⟨c20b0, c20b1, H⟩ | ⟨c20, c20b0, c20b1, H⟩
   ·obtain rfl := si_ H
    obtain ⟨hcz21_0, hcz21_1, hcz21_2, hfz21_0, hfz21_1, hfz21_2⟩ := ch3_ BK159
    go_wp2_with (first | (go_at_call 68; (with_reducible refine (spec_l01Power.calls kj2 a0 (wrap64 (a1_0 + a1_2)) t163 _ A17.out).mono ?_); rintro e w' ⟨rfl, ⟨nd, rfl⟩⟩; (try exact dd_)) | (go_at_call 42; (with_reducible refine (spec_l01In.calls a1_1 0 (wrap64 (t163 - 1)) true _ A18.out).mono ?_); rintro e w' ⟨rfl, ⟨nd, rfl⟩⟩; (try exact dd_)))
    repeat (go_quiet (first | (go_at_call 68; (with_reducible refine (spec_l01Power.calls kj2 a0 (wrap64 (a1_0 + a1_2)) t163 _ A17.out).mono ?_); rintro e w' ⟨rfl, ⟨nd, rfl⟩⟩; (try exact dd_)) | (go_at_call 42; (with_reducible refine (spec_l01In.calls a1_1 0 (wrap64 (t163 - 1)) true _ A18.out).mono ?_); rintro e w' ⟨rfl, ⟨nd, rfl⟩⟩; (try exact dd_))); try go_wp2_with (first | (go_at_call 68; (with_reducible refine (spec_l01Power.calls kj2 a0 (wrap64 (a1_0 + a1_2)) t163 _ A17.out).mono ?_); rintro e w' ⟨rfl, ⟨nd, rfl⟩⟩; (try exact dd_)) | (go_at_call 42; (with_reducible refine (spec_l01In.calls a1_1 0 (wrap64 (t163 - 1)) true _ A18.out).mono ?_); rintro e w' ⟨rfl, ⟨nd, rfl⟩⟩; (try exact dd_))))
    go_ret
    exact ⟨es_, (bw_ HB).out⟩
   replace H := ief_ H
   obtain ⟨c22, c22b0, c22b1, H⟩ := H
   obtain rfl := si_ H
   obtain ⟨hcz23_0, hcz23_1, hcz23_2, hfz23_0, hfz23_1, hfz23_2⟩ := ch3_ BK159
   go_wp2_with (first | (go_at_call 68; (with_reducible refine (spec_l01Power.calls kj2 a0 (wrap64 (a1_0 + a1_2)) t163 _ A17.out).mono ?_); rintro e w' ⟨rfl, ⟨nd, rfl⟩⟩; (try exact dd_)) | (go_at_call 42; (with_reducible refine (spec_l01In.calls a1_1 0 (wrap64 (t163 - 1)) true _ A18.out).mono ?_); rintro e w' ⟨rfl, ⟨nd, rfl⟩⟩; (try exact dd_)))
   repeat (go_quiet (first | (go_at_call 68; (with_reducible refine (spec_l01Power.calls kj2 a0 (wrap64 (a1_0 + a1_2)) t163 _ A17.out).mono ?_); rintro e w' ⟨rfl, ⟨nd, rfl⟩⟩; (try exact dd_)) | (go_at_call 42; (with_reducible refine (spec_l01In.calls a1_1 0 (wrap64 (t163 - 1)) true _ A18.out).mono ?_); rintro e w' ⟨rfl, ⟨nd, rfl⟩⟩; (try exact dd_))); try go_wp2_with (first | (go_at_call 68; (with_reducible refine (spec_l01Power.calls kj2 a0 (wrap64 (a1_0 + a1_2)) t163 _ A17.out).mono ?_); rintro e w' ⟨rfl, ⟨nd, rfl⟩⟩; (try exact dd_)) | (go_at_call 42; (with_reducible refine (spec_l01In.calls a1_1 0 (wrap64 (t163 - 1)) true _ A18.out).mono ?_); rintro e w' ⟨rfl, ⟨nd, rfl⟩⟩; (try exact dd_))))
   go_ret
   exact ⟨es_, (bw_ HB).out⟩
  obtain rfl := si_ H
  obtain ⟨hcz24_0, hcz24_1, hcz24_2, hfz24_0, hfz24_1, hfz24_2⟩ := ch3_ BK159
  go_wp2_with (first | (go_at_call 68; (with_reducible refine (spec_l01Power.calls kj2 a0 (wrap64 (a1_0 + a1_2)) t163 _ A17.out).mono ?_); rintro e w' ⟨rfl, ⟨nd, rfl⟩⟩; (try exact dd_)) | (go_at_call 42; (with_reducible refine (spec_l01In.calls a1_1 0 (wrap64 (t163 - 1)) false _ A18.out).mono ?_); rintro e w' ⟨rfl, ⟨nd, rfl⟩⟩; (try exact dd_)))
  repeat (go_quiet (first | (go_at_call 68; (with_reducible refine (spec_l01Power.calls kj2 a0 (wrap64 (a1_0 + a1_2)) t163 _ A17.out).mono ?_); rintro e w' ⟨rfl, ⟨nd, rfl⟩⟩; (try exact dd_)) | (go_at_call 42; (with_reducible refine (spec_l01In.calls a1_1 0 (wrap64 (t163 - 1)) false _ A18.out).mono ?_); rintro e w' ⟨rfl, ⟨nd, rfl⟩⟩; (try exact dd_))); try go_wp2_with (first | (go_at_call 68; (with_reducible refine (spec_l01Power.calls kj2 a0 (wrap64 (a1_0 + a1_2)) t163 _ A17.out).mono ?_); rintro e w' ⟨rfl, ⟨nd, rfl⟩⟩; (try exact dd_)) | (go_at_call 42; (with_reducible refine (spec_l01In.calls a1_1 0 (wrap64 (t163 - 1)) false _ A18.out).mono ?_); rintro e w' ⟨rfl, ⟨nd, rfl⟩⟩; (try exact dd_))))
  go_ret
  exact ⟨es_, (bw_ HB).out⟩
/-! ### spec_l01Code: function 59 -/
def spec_l01Code.l0 : Nat → Int → List (S31) → Int → Option (Int)
 | 0, _, _, _ => none
 | k + 1, x0, x1, x5 => if x5 < (x1.length : Int) then (if 0 ≤ x5 then ((spec_l01Is.f k x0 ((rd_T31 x1 x5).f0) ((rd_T31 x1 x5).f1) ((rd_T31 x1 x5).f2)).bind fun t167 => (if t167 = true then (spec_l01Code.l0 k x0 x1 (wrap64 (x5 + 1))) else (some 1))) else (none)) else (some 0)
def spec_l01Code.f (k : Nat) (a0 : Int) (l1 : List (S31)) : Option (Int) := (spec_l01Prime.f a0).bind fun t165 => (if t165 = true then (spec_l01Code.l0 k a0 l1 0) else (some 1))
theorem spec_l01Code.calls (k : Nat) (a0 : Int) (A1 : Option Addr) (c1 : Nat) (l1 : List (S31)) (r : Int) (w : World) (hr1 : Kd.C k31 w A1 l1.length l1) (hc1 : l1.length ≤ c1) (h : spec_l01Code.f k a0 l1 = some r) :
  Calls Try.prog 59 #[.int .i64 a0, .slice A1 l1.length c1] w fun e w' => e = .returned (.int .i64 r) ∧ Below w.heap.size w w' := by
 have hu31 := Try.underlying31
 have HR1 := Aside0.mk hr1
 have HC1 := Aside0.mk hc1
 clear hr1 hc1
 have HB := Aside0.mk (Below.refl w.heap.size w)
 unfold spec_l01Code.f at h
 have H := h
 clear h
 replace H := oc_ H
 obtain ⟨t165, A3, H⟩ := H
 replace H := ib_ H
 rcases H with ⟨rfl, H⟩ | ⟨rfl, H⟩
 ·have H' := Aside0.mk H
  clear H
  go_enter Try.func59, Try.ntmps59
  go_wp2_with (first | ((refine gc_ 88 ?_); refine ge_ 7 Try.func88 #[.int .i64 a0] ?_; (with_reducible refine (spec_l01Prime.calls a0 true _ A3.out).mono ?_); rintro e w' ⟨rfl, ⟨nd, rfl⟩⟩; refine ⟨_, rfl, ?_⟩))
  go_loopg [5] k (fun kq v5 w' => ∃ (x5_1 : Int), v5 = .int .i64 x5_1 ∧ Aside0 (spec_l01Code.l0 kq a0 l1 x5_1 = some r) ∧ Aside0 (kq ≤ k) ∧ Aside0 (Below w.heap.size w w'))
  case atStart => exact ⟨(0), en_, H', ⟨Nat.le_refl _⟩, bw_ HB⟩
  clear H'
  try clear c1
  obtain ⟨x5_1, rfl, HA, HK1, HB⟩ := hrel
  cases gk with
  | zero => exact absurd HA.out (by simp [spec_l01Code.l0])
  | succ k1 =>
   have H := HA.out
   clear HA
   simp only [spec_l01Code.l0] at H
   replace H := il_ H
   rcases H with ⟨c5b0, H⟩ | ⟨c5b0, H⟩
   ·replace H := imn_ H
    obtain ⟨c6b0, H⟩ := H
    replace H := oc_ H
    obtain ⟨t167, A7, H⟩ := H
    replace H := ib_ H
    rcases H with ⟨rfl, H⟩ | ⟨rfl, H⟩
    ·have H' := Aside0.mk H
     clear H
     have p166 : 0 ≤ (x5_1 : Int) := od_
     have q166 : x5_1 < (l1.length : Int) := od_
     obtain ⟨ad166, e166, hx166_0, hx166_1, hx166_2⟩ := at_T31 HR1.out x5_1 p166 q166
     cases e166
     replace hx166_0 := clTr HB.out hx166_0
     replace hx166_1 := clTr HB.out hx166_1
     replace hx166_2 := clTr HB.out hx166_2
     replace p166 := eq_true p166
     replace q166 := eq_true q166
     go_wp2_with (first | ((refine gc_ 60 ?_); refine ge_ 20 Try.func60 #[.int .i64 a0, .agg #[.int .i64 ((rd_T31 l1 x5_1).f0), .int .i64 ((rd_T31 l1 x5_1).f1), .int .i64 ((rd_T31 l1 x5_1).f2)]] ?_; (with_reducible refine (spec_l01Is.calls k1 a0 ((rd_T31 l1 x5_1).f0) ((rd_T31 l1 x5_1).f1) ((rd_T31 l1 x5_1).f2) true _ A7.out).mono ?_); rintro e w9 ⟨rfl, hb⟩; refine ⟨_, rfl, ?_⟩; replace HB := bt_ HB hb; (try clear hb)))
     go_roundg k1
     case measure => have := HK1.out; omega
     case rel => exact ⟨(wrap64 (x5_1 + 1)), en_, H', ⟨by have := HK1.out; omega⟩, bw_ HB⟩
    obtain rfl := si_ H
    have p166 : 0 ≤ (x5_1 : Int) := od_
    have q166 : x5_1 < (l1.length : Int) := od_
    obtain ⟨ad166, e166, hx166_0, hx166_1, hx166_2⟩ := at_T31 HR1.out x5_1 p166 q166
    cases e166
    replace hx166_0 := clTr HB.out hx166_0
    replace hx166_1 := clTr HB.out hx166_1
    replace hx166_2 := clTr HB.out hx166_2
    replace p166 := eq_true p166
    replace q166 := eq_true q166
    go_wp2_with (first | ((refine gc_ 60 ?_); refine ge_ 20 Try.func60 #[.int .i64 a0, .agg #[.int .i64 ((rd_T31 l1 x5_1).f0), .int .i64 ((rd_T31 l1 x5_1).f1), .int .i64 ((rd_T31 l1 x5_1).f2)]] ?_; (with_reducible refine (spec_l01Is.calls k1 a0 ((rd_T31 l1 x5_1).f0) ((rd_T31 l1 x5_1).f1) ((rd_T31 l1 x5_1).f2) false _ A7.out).mono ?_); rintro e w10 ⟨rfl, hb⟩; refine ⟨_, rfl, ?_⟩; replace HB := bt_ HB hb; (try clear hb)))
    go_ret
    exact ⟨es_, (bw_ HB).out⟩
   obtain rfl := si_ H
   go_wp2
   go_ret
   exact ⟨es_, (bw_ HB).out⟩
 obtain rfl := si_ H
 go_enter Try.func59, Try.ntmps59
 go_wp2_with (first | ((refine gc_ 88 ?_); refine ge_ 7 Try.func88 #[.int .i64 a0] ?_; (with_reducible refine (spec_l01Prime.calls a0 false _ A3.out).mono ?_); rintro e w' ⟨rfl, ⟨nd, rfl⟩⟩; refine ⟨_, rfl, ?_⟩))
 go_ret
 exact ⟨es_, (bw_ HB).out⟩
/-! ### spec_l08Key: function 67 -/
def spec_l08Key.f (k : Nat) (a0 a1_0 a1_1 a1_2 : Int) : Option (Int) := (spec_l01Power.f k a0 (wrap64 (6 - a1_2))).bind fun t169 => (some (wrap64 (a1_1 * t169)))
theorem spec_l08Key.calls (k : Nat) (a0 a1_0 a1_1 a1_2 r : Int) (w : World) (h : spec_l08Key.f k a0 a1_0 a1_1 a1_2 = some r) :
  Calls Try.prog 67 #[.int .i64 a0, .agg #[.int .i64 a1_0, .int .i64 a1_1, .int .i64 a1_2]] w fun e w' => e = .returned (.int .i64 r) ∧ Below w.heap.size w w' := by
 have hu31 := Try.underlying31
 have HB := Aside0.mk (Below.refl w.heap.size w)
 unfold spec_l08Key.f at h
 have H := h
 clear h
 replace H := oc_ H
 obtain ⟨t169, A3, H⟩ := H
 obtain rfl := si_ H
 go_enter Try.func67, Try.ntmps67
 go_wp2_with (first | ((refine gd_ 3 ?_); refine by_ 3 #[.int .i64 a1_0, .int .i64 a1_1, .int .i64 a1_2] 31 HB ?_; intro gb168 hg w4 BK168 hb GW168 HB_; replace HB := HB_; clear hb hg; obtain ⟨hcz5_0, hcz5_1, hcz5_2, hfz5_0, hfz5_1, hfz5_2⟩ := ch3_ BK168) | (go_at_call 68; (with_reducible refine (spec_l01Power.calls k a0 (wrap64 (6 - a1_2)) t169 _ A3.out).mono ?_); rintro e w' ⟨rfl, ⟨nd, rfl⟩⟩; (try exact dd_)))
 repeat (go_quiet (first | ((refine gd_ 3 ?_); refine by_ 3 #[.int .i64 a1_0, .int .i64 a1_1, .int .i64 a1_2] 31 HB ?_; intro gb168 hg w4 BK168 hb GW168 HB_; replace HB := HB_; clear hb hg; obtain ⟨hcz5_0, hcz5_1, hcz5_2, hfz5_0, hfz5_1, hfz5_2⟩ := ch3_ BK168) | (go_at_call 68; (with_reducible refine (spec_l01Power.calls k a0 (wrap64 (6 - a1_2)) t169 _ A3.out).mono ?_); rintro e w' ⟨rfl, ⟨nd, rfl⟩⟩; (try exact dd_))); try go_wp2_with (first | ((refine gd_ 3 ?_); refine by_ 3 #[.int .i64 a1_0, .int .i64 a1_1, .int .i64 a1_2] 31 HB ?_; intro gb168 hg w4 BK168 hb GW168 HB_; replace HB := HB_; clear hb hg; obtain ⟨hcz5_0, hcz5_1, hcz5_2, hfz5_0, hfz5_1, hfz5_2⟩ := ch3_ BK168) | (go_at_call 68; (with_reducible refine (spec_l01Power.calls k a0 (wrap64 (6 - a1_2)) t169 _ A3.out).mono ?_); rintro e w' ⟨rfl, ⟨nd, rfl⟩⟩; (try exact dd_))))
 go_ret
 exact ⟨es_, (bw_ HB).out⟩
end Go.Proofs.Ytdfcoebadjhjlaa.QI
