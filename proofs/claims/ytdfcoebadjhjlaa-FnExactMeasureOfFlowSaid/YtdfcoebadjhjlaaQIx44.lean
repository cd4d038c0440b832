import Derived.Test.YtdfcoebadjhjlaaQIx5
import Derived.Test.YtdfcoebadjhjlaaQIx40
namespace Go.Proofs.Ytdfcoebadjhjlaa.QI
set_option maxHeartbeats 8000000
set_option maxRecDepth 100000
open Go.RowKit Go.Proofs.YtdfcoebadjhjlaaW.PrintWords Go.Proofs.YtdfcoebadjhjlaaW.PrintLast Go.Proofs.YtdfcoebadjhjlaaW.PrintMore
attribute [local go_sem] isSome_setCell max2_int min2_int max_two min_two max_three min_three max_four min_four
set_option linter.unusedVariables false
set_option linter.unusedSimpArgs false

/-! ### impl_IsBall: function 63 -/
def impl_IsBall.j0 : Nat → Int → Bool → Int → Int → Int → Option (Bool)
 | 0, _, _, _, _, _ => none
 | k + 1, x0, x24, x336000, x336001, x336002 => if x24 = true then (some false) else (if (wrap64 (x336000 + x336002)) ≤ 0 then (if x336001 = 0 then (some (x336002 == 0)) else (some false)) else (if x336001 ≥ 0 then ((impl_power.f k x0 (wrap64 (x336000 + x336002))).bind fun t338 => (if x336001 < t338 then (if x336002 = 0 then (some true) else (if x0 = 0 then (none) else (some ((Int.tmod x336001 x0) != 0)))) else (some false))) else (some false)))
def impl_IsBall.f (k : Nat) (a0 a1_0 a1_1 a1_2 : Int) : Option (Bool) := (impl_isPrime.f a0).bind fun t336 => (if t336 = true then ((impl_isLevel.f a1_0).bind fun t337 => (if t337 = true then (if a1_2 < 0 then (impl_IsBall.j0 k a0 true a1_0 a1_1 a1_2) else (impl_IsBall.j0 k a0 (decide (a1_2 > 6)) a1_0 a1_1 a1_2)) else (impl_IsBall.j0 k a0 true a1_0 a1_1 a1_2))) else (impl_IsBall.j0 k a0 true a1_0 a1_1 a1_2))
theorem impl_IsBall.calls (k : Nat) (a0 a1_0 a1_1 a1_2 : Int) (r : Bool) (w : World) (h : impl_IsBall.f k a0 a1_0 a1_1 a1_2 = some r) :
  Calls Try.prog 63 #[.int .i64 a0, .agg #[.int .i64 a1_0, .int .i64 a1_1, .int .i64 a1_2]] w fun e w' => e = .returned (.bool r) ∧ Below w.heap.size w w' := by
 have hu31 := Try.underlying31
 have HB := Aside0.mk (Below.refl w.heap.size w)
 unfold impl_IsBall.f at h
 have H := h
 clear h
 have HC3 := Aside0.mk H
 clear H
 go_enter Try.func63, Try.ntmps63
 go_upto_region 1 with (first | ((refine gd_ 3 ?_); refine by_ 3 #[.int .i64 a1_0, .int .i64 a1_1, .int .i64 a1_2] 31 HB ?_; intro gb335 hg w4 BK335 hb GW335 HB_; replace HB := HB_; clear hb hg))
 repeat (go_quiet (first | ((refine gd_ 3 ?_); refine by_ 3 #[.int .i64 a1_0, .int .i64 a1_1, .int .i64 a1_2] 31 HB ?_; intro gb335 hg w4 BK335 hb GW335 HB_; replace HB := HB_; clear hb hg)); go_upto_region 1 with (first | ((refine gd_ 3 ?_); refine by_ 3 #[.int .i64 a1_0, .int .i64 a1_1, .int .i64 a1_2] 31 HB ?_; intro gb335 hg w4 BK335 hb GW335 HB_; replace HB := HB_; clear hb hg)))
 (try simp only [Act.put, lstS, lstZ, lstC])
 go_cut [24] (fun v24 wc => ∃ (kq : Nat) (x24_2 : Bool), v24 = .bool x24_2 ∧ Aside0 (impl_IsBall.j0 kq a0 x24_2 a1_0 a1_1 a1_2 = some r) ∧ Aside0 (kq ≤ k) ∧ Aside0 (wc.heap[gb335]? = some (.cells #[.int .i64 a1_0, .int .i64 a1_1, .int .i64 a1_2] 31 (0, 0))) ∧ Aside0 (Below w.heap.size w wc))
 case first =>
  have H := HC3.out
  clear HC3
  replace H := oc_ H
  obtain ⟨t336, A5, H⟩ := H
  replace H := ib_ H
  rcases H with ⟨rfl, H⟩ | ⟨rfl, H⟩
  ·replace H := oc_ H
   obtain ⟨t337, A7, H⟩ := H
   replace H := ib_ H
   rcases H with ⟨rfl, H⟩ | ⟨rfl, H⟩
   ·replace H := il_ H
    rcases H with ⟨c9b0, H⟩ | ⟨c9b0, H⟩
    ·(first | rw [c9b0] | (simp only [i64_w, i32_w]; rw [c9b0]) | skip)
     have H' := Aside0.mk H
     clear H
     go_wp2_with (first | (go_at_call 89; (with_reducible refine (impl_isPrime.calls a0 true _ A5.out).mono ?_); rintro e w' ⟨rfl, ⟨nd, rfl⟩⟩; (try exact dd_); obtain ⟨hcz10_0, hcz10_1, hcz10_2, hfz10_0, hfz10_1, hfz10_2⟩ := ch3_ BK335) | (go_at_call 90; (with_reducible refine (impl_isLevel.calls a1_0 true _ A7.out).mono ?_); rintro e w' ⟨rfl, ⟨nd, rfl⟩⟩; (try exact dd_)))
     repeat (go_quiet (first | (go_at_call 89; (with_reducible refine (impl_isPrime.calls a0 true _ A5.out).mono ?_); rintro e w' ⟨rfl, ⟨nd, rfl⟩⟩; (try exact dd_); obtain ⟨hcz10_0, hcz10_1, hcz10_2, hfz10_0, hfz10_1, hfz10_2⟩ := ch3_ BK335) | (go_at_call 90; (with_reducible refine (impl_isLevel.calls a1_0 true _ A7.out).mono ?_); rintro e w' ⟨rfl, ⟨nd, rfl⟩⟩; (try exact dd_))); try go_wp2_with (first | (go_at_call 89; (with_reducible refine (impl_isPrime.calls a0 true _ A5.out).mono ?_); rintro e w' ⟨rfl, ⟨nd, rfl⟩⟩; (try exact dd_); obtain ⟨hcz10_0, hcz10_1, hcz10_2, hfz10_0, hfz10_1, hfz10_2⟩ := ch3_ BK335) | (go_at_call 90; (with_reducible refine (impl_isLevel.calls a1_0 true _ A7.out).mono ?_); rintro e w' ⟨rfl, ⟨nd, rfl⟩⟩; (try exact dd_))))
     go_meet
     case rel => exact ⟨_, (true), en_, H', ⟨by first | omega | exact Nat.le_refl _⟩, bl_ BK335, bw_ HB⟩
    (first | rw [c9b0] | (simp only [i64_w, i32_w]; rw [c9b0]) | skip)
    have H' := Aside0.mk H
    clear H
    go_wp2_with (first | (go_at_call 89; (with_reducible refine (impl_isPrime.calls a0 true _ A5.out).mono ?_); rintro e w' ⟨rfl, ⟨nd, rfl⟩⟩; (try exact dd_); obtain ⟨hcz11_0, hcz11_1, hcz11_2, hfz11_0, hfz11_1, hfz11_2⟩ := ch3_ BK335) | (go_at_call 90; (with_reducible refine (impl_isLevel.calls a1_0 true _ A7.out).mono ?_); rintro e w' ⟨rfl, ⟨nd, rfl⟩⟩; (try exact dd_)))
    repeat (go_quiet (first | (go_at_call 89; (with_reducible refine (impl_isPrime.calls a0 true _ A5.out).mono ?_); rintro e w' ⟨rfl, ⟨nd, rfl⟩⟩; (try exact dd_); obtain ⟨hcz11_0, hcz11_1, hcz11_2, hfz11_0, hfz11_1, hfz11_2⟩ := ch3_ BK335) | (go_at_call 90; (with_reducible refine (impl_isLevel.calls a1_0 true _ A7.out).mono ?_); rintro e w' ⟨rfl, ⟨nd, rfl⟩⟩; (try exact dd_))); try go_wp2_with (first | (go_at_call 89; (with_reducible refine (impl_isPrime.calls a0 true _ A5.out).mono ?_); rintro e w' ⟨rfl, ⟨nd, rfl⟩⟩; (try exact dd_); obtain ⟨hcz11_0, hcz11_1, hcz11_2, hfz11_0, hfz11_1, hfz11_2⟩ := ch3_ BK335) | (go_at_call 90; (with_reducible refine (impl_isLevel.calls a1_0 true _ A7.out).mono ?_); rintro e w' ⟨rfl, ⟨nd, rfl⟩⟩; (try exact dd_))))
    go_meet
    case rel => exact ⟨_, (decide (a1_2 > 6)), en_, H', ⟨by first | omega | exact Nat.le_refl _⟩, bl_ BK335, bw_ HB⟩
   have H' := Aside0.mk H
   clear H
   go_wp2_with (first | (go_at_call 89; (with_reducible refine (impl_isPrime.calls a0 true _ A5.out).mono ?_); rintro e w' ⟨rfl, ⟨nd, rfl⟩⟩; (try exact dd_); obtain ⟨hcz12_0, hcz12_1, hcz12_2, hfz12_0, hfz12_1, hfz12_2⟩ := ch3_ BK335) | (go_at_call 90; (with_reducible refine (impl_isLevel.calls a1_0 false _ A7.out).mono ?_); rintro e w' ⟨rfl, ⟨nd, rfl⟩⟩; (try exact dd_)))
   repeat (go_quiet (first | (go_at_call 89; (with_reducible refine (impl_isPrime.calls a0 true _ A5.out).mono ?_); rintro e w' ⟨rfl, ⟨nd, rfl⟩⟩; (try exact dd_); obtain ⟨hcz12_0, hcz12_1, hcz12_2, hfz12_0, hfz12_1, hfz12_2⟩ := ch3_ BK335) | (go_at_call 90; (with_reducible refine (impl_isLevel.calls a1_0 false _ A7.out).mono ?_); rintro e w' ⟨rfl, ⟨nd, rfl⟩⟩; (try exact dd_))); try go_wp2_with (first | (go_at_call 89; (with_reducible refine (impl_isPrime.calls a0 true _ A5.out).mono ?_); rintro e w' ⟨rfl, ⟨nd, rfl⟩⟩; (try exact dd_); obtain ⟨hcz12_0, hcz12_1, hcz12_2, hfz12_0, hfz12_1, hfz12_2⟩ := ch3_ BK335) | (go_at_call 90; (with_reducible refine (impl_isLevel.calls a1_0 false _ A7.out).mono ?_); rintro e w' ⟨rfl, ⟨nd, rfl⟩⟩; (try exact dd_))))
   go_meet
   case rel => exact ⟨_, (true), en_, H', ⟨by first | omega | exact Nat.le_refl _⟩, bl_ BK335, bw_ HB⟩
  have H' := Aside0.mk H
  clear H
  go_wp2_with (first | (go_at_call 89; (with_reducible refine (impl_isPrime.calls a0 false _ A5.out).mono ?_); rintro e w' ⟨rfl, ⟨nd, rfl⟩⟩; (try exact dd_)))
  repeat (go_quiet (first | (go_at_call 89; (with_reducible refine (impl_isPrime.calls a0 false _ A5.out).mono ?_); rintro e w' ⟨rfl, ⟨nd, rfl⟩⟩; (try exact dd_))); try go_wp2_with (first | (go_at_call 89; (with_reducible refine (impl_isPrime.calls a0 false _ A5.out).mono ?_); rintro e w' ⟨rfl, ⟨nd, rfl⟩⟩; (try exact dd_))))
  go_meet
  case rel => exact ⟨_, (true), en_, H', ⟨by first | omega | exact Nat.le_refl _⟩, bl_ BK335, bw_ HB⟩
 clear HC3
 try clear c9b0
 try clear hcz10_0 hcz10_1 hcz10_2
 try clear hcz11_0 hcz11_1 hcz11_2
 try clear hcz12_0 hcz12_1 hcz12_2
 try clear hfz10_0 hfz10_1 hfz10_2
 try clear hfz11_0 hfz11_1 hfz11_2
 try clear hfz12_0 hfz12_1 hfz12_2
 obtain ⟨kq, x24_2, rfl, HA, HJ2, BK335, HB⟩ := hcut
 cases kq with
 | zero => exact absurd HA.out (by simp [impl_IsBall.j0])
 | succ kj2 =>
  have H := HA.out
  clear HA
  simp only [impl_IsBall.j0] at H
  replace H := ib_ H
  rcases H with ⟨rfl, H⟩ | ⟨rfl, H⟩
  ·obtain rfl := si_ H
   go_wp2
   repeat (go_quiet (fail); try go_wp2)
   go_ret
   exact ⟨es_, (bw_ HB).out⟩
  replace H := im_ H
  rcases H with ⟨c14b0, H⟩ | ⟨c14b0, H⟩
  ·replace H := ie_ H
   rcases H with ⟨c15b0, c15b1, H⟩ | ⟨c15, c15b0, c15b1, H⟩
   ·obtain rfl := si_ H
    obtain ⟨hcz16_0, hcz16_1, hcz16_2, hfz16_0, hfz16_1, hfz16_2⟩ := ch3_ BK335
    go_wp2
    repeat (go_quiet (fail); try go_wp2)
    go_ret
    exact ⟨es_, (bw_ HB).out⟩
   obtain rfl := si_ H
   obtain ⟨hcz17_0, hcz17_1, hcz17_2, hfz17_0, hfz17_1, hfz17_2⟩ := ch3_ BK335
   go_wp2
   repeat (go_quiet (fail); try go_wp2)
   go_ret
   exact ⟨es_, (bw_ HB).out⟩
  replace H := in_ H
  rcases H with ⟨c18b0, H⟩ | ⟨c18b0, H⟩
  ·replace H := oc_ H
   obtain ⟨t338, A19, H⟩ := H
   replace H := il_ H
   rcases H with ⟨c20b0, H⟩ | ⟨c20b0, H⟩
   ·replace H := ie_ H
    rcases H with ⟨c21b0, c21b1, H⟩ | ⟨c21, c21b0, c21b1, H⟩
    ·obtain rfl := si_ H
     obtain ⟨hcz22_0, hcz22_1, hcz22_2, hfz22_0, hfz22_1, hfz22_2⟩ := ch3_ BK335
     go_wp2_with (first | (go_at_call 81; (with_reducible refine (impl_power.calls kj2 a0 (wrap64 (a1_0 + a1_2)) t338 _ A19.out).mono ?_); rintro e w' ⟨rfl, ⟨nd, rfl⟩⟩; (try exact dd_)))
     repeat (go_quiet (first | (go_at_call 81; (with_reducible refine (impl_power.calls kj2 a0 (wrap64 (a1_0 + a1_2)) t338 _ A19.out).mono ?_); rintro e w' ⟨rfl, ⟨nd, rfl⟩⟩; (try exact dd_))); try go_wp2_with (first | (go_at_call 81; (with_reducible refine (impl_power.calls kj2 a0 (wrap64 (a1_0 + a1_2)) t338 _ A19.out).mono ?_); rintro e w' ⟨rfl, ⟨nd, rfl⟩⟩; (try exact dd_))))
     go_ret
     exact ⟨es_, (bw_ HB).out⟩
    replace H := ief_ H
    obtain ⟨c23, c23b0, c23b1, H⟩ := H
    obtain rfl := si_ H
    obtain ⟨hcz24_0, hcz24_1, hcz24_2, hfz24_0, hfz24_1, hfz24_2⟩ := ch3_ BK335
    go_wp2_with (first | (go_at_call 81; (with_reducible refine (impl_power.calls kj2 a0 (wrap64 (a1_0 + a1_2)) t338 _ A19.out).mono ?_); rintro e w' ⟨rfl, ⟨nd, rfl⟩⟩; (try exact dd_)))
    repeat (go_quiet (first | (go_at_call 81; (with_reducible refine (impl_power.calls kj2 a0 (wrap64 (a1_0 + a1_2)) t338 _ A19.out).mono ?_); rintro e w' ⟨rfl, ⟨nd, rfl⟩⟩; (try exact dd_))); try go_wp2_with (first | (go_at_call 81; (with_reducible refine (impl_power.calls kj2 a0 (wrap64 (a1_0 + a1_2)) t338 _ A19.out).mono ?_); rintro e w' ⟨rfl, ⟨nd, rfl⟩⟩; (try exact dd_))))
    go_ret
    exact ⟨es_, (bw_ HB).out⟩
   obtain rfl := si_ H
   obtain ⟨hcz25_0, hcz25_1, hcz25_2, hfz25_0, hfz25_1, hfz25_2⟩ := ch3_ BK335
   go_wp2_with (first | (go_at_call 81; (with_reducible refine (impl_power.calls kj2 a0 (wrap64 (a1_0 + a1_2)) t338 _ A19.out).mono ?_); rintro e w' ⟨rfl, ⟨nd, rfl⟩⟩; (try exact dd_)))
   repeat (go_quiet (first | (go_at_call 81; (with_reducible refine (impl_power.calls kj2 a0 (wrap64 (a1_0 + a1_2)) t338 _ A19.out).mono ?_); rintro e w' ⟨rfl, ⟨nd, rfl⟩⟩; (try exact dd_))); try go_wp2_with (first | (go_at_call 81; (with_reducible refine (impl_power.calls kj2 a0 (wrap64 (a1_0 + a1_2)) t338 _ A19.out).mono ?_); rintro e w' ⟨rfl, ⟨nd, rfl⟩⟩; (try exact dd_))))
   go_ret
   exact ⟨es_, (bw_ HB).out⟩
  obtain rfl := si_ H
  obtain ⟨hcz26_0, hcz26_1, hcz26_2, hfz26_0, hfz26_1, hfz26_2⟩ := ch3_ BK335
  go_wp2
  repeat (go_quiet (fail); try go_wp2)
  go_ret
  exact ⟨es_, (bw_ HB).out⟩
/-! ### impl_mark: function 80 -/
def impl_mark.f (k : Nat) (a0 a1_0 a1_1 a1_2 : Int) : Option (Int) := (impl_power.f k a0 (wrap64 (6 - a1_2))).bind fun t340 => (some (wrap64 (a1_1 * t340)))
theorem impl_mark.calls (k : Nat) (a0 a1_0 a1_1 a1_2 r : Int) (w : World) (h : impl_mark.f k a0 a1_0 a1_1 a1_2 = some r) :
  Calls Try.prog 80 #[.int .i64 a0, .agg #[.int .i64 a1_0, .int .i64 a1_1, .int .i64 a1_2]] w fun e w' => e = .returned (.int .i64 r) ∧ Below w.heap.size w w' := by
 have hu31 := Try.underlying31
 have HB := Aside0.mk (Below.refl w.heap.size w)
 unfold impl_mark.f at h
 have H := h
 clear h
 replace H := oc_ H
 obtain ⟨t340, A3, H⟩ := H
 obtain rfl := si_ H
 go_enter Try.func80, Try.ntmps80
 go_wp2_with (first | ((refine gd_ 3 ?_); refine by_ 3 #[.int .i64 a1_0, .int .i64 a1_1, .int .i64 a1_2] 31 HB ?_; intro gb339 hg w4 BK339 hb GW339 HB_; replace HB := HB_; clear hb hg; obtain ⟨hcz5_0, hcz5_1, hcz5_2, hfz5_0, hfz5_1, hfz5_2⟩ := ch3_ BK339) | (go_at_call 81; (with_reducible refine (impl_power.calls k a0 (wrap64 (6 - a1_2)) t340 _ A3.out).mono ?_); rintro e w' ⟨rfl, ⟨nd, rfl⟩⟩; (try exact dd_)))
 repeat (go_quiet (first | ((refine gd_ 3 ?_); refine by_ 3 #[.int .i64 a1_0, .int .i64 a1_1, .int .i64 a1_2] 31 HB ?_; intro gb339 hg w4 BK339 hb GW339 HB_; replace HB := HB_; clear hb hg; obtain ⟨hcz5_0, hcz5_1, hcz5_2, hfz5_0, hfz5_1, hfz5_2⟩ := ch3_ BK339) | (go_at_call 81; (with_reducible refine (impl_power.calls k a0 (wrap64 (6 - a1_2)) t340 _ A3.out).mono ?_); rintro e w' ⟨rfl, ⟨nd, rfl⟩⟩; (try exact dd_))); try go_wp2_with (first | ((refine gd_ 3 ?_); refine by_ 3 #[.int .i64 a1_0, .int .i64 a1_1, .int .i64 a1_2] 31 HB ?_; intro gb339 hg w4 BK339 hb GW339 HB_; replace HB := HB_; clear hb hg; obtain ⟨hcz5_0, hcz5_1, hcz5_2, hfz5_0, hfz5_1, hfz5_2⟩ := ch3_ BK339) | (go_at_call 81; (with_reducible refine (impl_power.calls k a0 (wrap64 (6 - a1_2)) t340 _ A3.out).mono ?_); rintro e w' ⟨rfl, ⟨nd, rfl⟩⟩; (try exact dd_))))
 go_ret
 exact ⟨es_, (bw_ HB).out⟩
/-! ### impl_holds: function 51 -/
def impl_holds.f (k : Nat) (a0 a1_0 a1_1 a1_2 a2_0 a2_1 a2_2 : Int) : Option (Bool) := if a1_0 ≤ a2_0 then ((impl_mark.f k a0 a2_0 a2_1 a2_2).bind fun t343 => ((impl_mark.f k a0 a1_0 a1_1 a1_2).bind fun t344 => ((impl_power.f k a0 (wrap64 (a1_0 + 6))).bind fun t345 => (if t345 = 0 then (none) else (some ((Int.tmod (wrap64 (t343 - t344)) t345) == 0)))))) else (some false)
def impl_holds.T1 : Bool × List (List Nat × List Nat) := (true, [([], []), ([0], [0]), ([], []), ([2], [2]), ([1, 3], [1, 3]), ([4], [4]), ([5], [5]), ([5], [5]), ([6, 7, 5, 5], [5, 6, 7]), ([5], [5]), ([5], [5]), ([9, 10, 8, 5], [5, 9, 10]), ([8, 11, 5], [5, 8, 11]), ([5], [5]), ([5], [5]), ([14, 5], [5, 14]), ([15, 5], [5, 15]), ([13, 16, 11, 5], [5, 13, 16]), ([12, 17, 5], [5, 12, 17]), ([18, 5], [5, 18]), ([5, 19], [5, 19]), ([20, 17, 0, 1, 2, 3, 4, 5, 6, 7, 8, 9, 10, 11, 12, 13, 14, 15, 16, 17, 18, 19, 20], [20])])
def impl_holds.B1 : List Nat := [0, 1, 0, 4, 15, 31, 63, 63, 255, 63, 63, 2047, 4095, 63, 63, 16447, 49215, 126975, 262143, 524287, 1048575, 2097151]
theorem impl_holds.tab1 : rtab .any (opsOf Try.f51 1) = impl_holds.T1 := by kernel_rfl
theorem impl_holds.bits1 : waitsOk impl_holds.T1.2 impl_holds.B1 = true := by kernel_rfl
theorem impl_holds.calls (k : Nat) (a0 a1_0 a1_1 a1_2 a2_0 a2_1 a2_2 : Int) (r : Bool) (w : World) (h : impl_holds.f k a0 a1_0 a1_1 a1_2 a2_0 a2_1 a2_2 = some r) :
  Calls Try.prog 51 #[.int .i64 a0, .agg #[.int .i64 a1_0, .int .i64 a1_1, .int .i64 a1_2], .agg #[.int .i64 a2_0, .int .i64 a2_1, .int .i64 a2_2]] w fun e w' => e = .returned (.bool r) ∧ Below w.heap.size w w' := by
 have hu31 := Try.underlying31
 have HB := Aside0.mk (Below.refl w.heap.size w)
 unfold impl_holds.f at h
 have H := h
 clear h
 replace H := im_ H
 rcases H with ⟨c4b0, H⟩ | ⟨c4b0, H⟩
 ·replace H := oc_ H
  obtain ⟨t343, A5, H⟩ := H
  replace H := oc_ H
  obtain ⟨t344, A6, H⟩ := H
  replace H := oc_ H
  obtain ⟨t345, A7, H⟩ := H
  replace H := ief_ H
  obtain ⟨c8, c8b0, c8b1, H⟩ := H
  obtain rfl := si_ H
  go_enter Try.func51, Try.ntmps51
  try go_wp2_with (first | ((refine gd_ 4 ?_); refine by_ 4 #[.int .i64 a1_0, .int .i64 a1_1, .int .i64 a1_2] 31 HB ?_; intro gb341 hg w9 BK341 hb GW341 HB_; replace HB := HB_; clear hb hg) | ((refine gd_ 5 ?_); refine by_ 5 #[.int .i64 a2_0, .int .i64 a2_1, .int .i64 a2_2] 31 HB ?_; intro gb342 hg w10 BK342 hb GW342 HB_; have NB341_342 := bm_ BK341 hg; have NB342_341 := bn_ BK341 hg; replace BK341 := bb_ BK341 hb; replace HB := HB_; clear hb hg))
  replace BK341 := bd_ BK341
  replace BK342 := bd_ BK342
  replace HB := be_ HB
  refine start_ (n := 22) (S := fun w' => w'.cell? ⟨gb341, 0, none⟩ = some (.int .i64 a1_0) ∧ w'.cell? ⟨gb341, 1, none⟩ = some (.int .i64 a1_1) ∧ w'.cell? ⟨gb341, 2, none⟩ = some (.int .i64 a1_2) ∧ w'.cell? ⟨gb342, 0, none⟩ = some (.int .i64 a2_0) ∧ w'.cell? ⟨gb342, 1, none⟩ = some (.int .i64 a2_1) ∧ w'.cell? ⟨gb342, 2, none⟩ = some (.int .i64 a2_2)) (ds := []) (bv_ 22 0) (by kernel_rfl) rfl rfl ⟨cz_ BK341 0, cz_ BK341 1, cz_ BK341 2, cz_ BK342 0, cz_ BK342 1, cz_ BK342 2⟩ (fun hHeld => ?_); refine with_tabW impl_holds.tab1 impl_holds.bits1 (fun HT_ HW_ => ?_)
  generalize w10.drew = w11 at BK341 BK342 HB hHeld ⊢
  refine px_ HT_ 0 7 1 ?_
  refine px_ HT_ 2 9 5 ?_
  refine ta_ HT_ HW_ 1 (some 8) (bv_ 22 7) hHeld ?_ (hy := by rintro w' ⟨s0, s1, s2, s3, s4, s5⟩; go_simp; with_reducible rfl)
  refine ta_ HT_ HW_ 3 (some 10) (bv_ 22 15) hHeld ?_ (hy := by rintro w' ⟨s0, s1, s2, s3, s4, s5⟩; go_simp; with_reducible rfl)
  refine px_ HT_ 4 11 31 ?_
  refine px_ HT_ 5 12 63 ?_
  refine px_ HT_ 6 13 127 ?_
  refine px_ HT_ 9 16 639 ?_
  refine px_ HT_ 13 20 8831 ?_
  refine px_ HT_ 14 21 25215 ?_
  refine ta_ HT_ HW_ 7 (some 14) (bv_ 22 25343) hHeld ?_ (hy := by rintro w' ⟨s0, s1, s2, s3, s4, s5⟩; go_simp; with_reducible rfl)
  refine ta_ HT_ HW_ 10 (some 17) (bv_ 22 26367) hHeld ?_ (hy := by rintro w' ⟨s0, s1, s2, s3, s4, s5⟩; go_simp; with_reducible rfl)
  refine ta_ HT_ HW_ 15 (some 22) (bv_ 22 59135) hHeld ?_ (hy := by rintro w' ⟨s0, s1, s2, s3, s4, s5⟩; go_simp; with_reducible rfl)
  refine px_ HT_ 16 23 124671 ?_
  refine on_ HT_ 8 (some 15) (bv_ 22 124927) (fun K hK => ?_)
  refine gs_ Try.func80 #[.int .i64 a0, .agg #[.int .i64 a2_0, .int .i64 a2_1, .int .i64 a2_2]] ?_
  with_reducible refine (impl_mark.calls k a0 a2_0 a2_1 a2_2 t343 _ A5.out).mono ?_
  rintro e w12 ⟨rfl, hb⟩
  refine ⟨_, rfl, ?_⟩
  replace BK341 := bb_ BK341 hb
  replace BK342 := bb_ BK342 hb
  replace HB := bt_ HB hb
  try clear hb
  refine hK.out _ _ ⟨cz_ BK341 0, cz_ BK341 1, cz_ BK341 2, cz_ BK342 0, cz_ BK342 1, cz_ BK342 2⟩ (fun hHeld => ?_)
  clear hK K
  refine nm_ (some 15) ?_
  refine on_ HT_ 11 (some 18) (bv_ 22 126975) (fun K hK => ?_)
  refine gs_ Try.func80 #[.int .i64 a0, .agg #[.int .i64 a1_0, .int .i64 a1_1, .int .i64 a1_2]] ?_
  with_reducible refine (impl_mark.calls k a0 a1_0 a1_1 a1_2 t344 _ A6.out).mono ?_
  rintro e w13 ⟨rfl, hb⟩
  refine ⟨_, rfl, ?_⟩
  replace BK341 := bb_ BK341 hb
  replace BK342 := bb_ BK342 hb
  replace HB := bt_ HB hb
  try clear hb
  refine hK.out _ _ ⟨cz_ BK341 0, cz_ BK341 1, cz_ BK341 2, cz_ BK342 0, cz_ BK342 1, cz_ BK342 2⟩ (fun hHeld => ?_)
  clear hK K
  refine nm_ (some 18) ?_
  refine px_ HT_ 12 19 131071 ?_
  refine on_ HT_ 17 (some 24) (bv_ 22 262143) (fun K hK => ?_)
  refine gs_ Try.func81 #[.int .i64 a0, .int .i64 (wrap64 (a1_0 + 6))] ?_
  with_reducible refine (impl_power.calls k a0 (wrap64 (a1_0 + 6)) t345 _ A7.out).mono ?_
  rintro e w' ⟨rfl, ⟨nd, rfl⟩⟩
  refine ⟨_, rfl, ?_⟩
  refine hK.out _ _ ⟨cz_ BK341 0, cz_ BK341 1, cz_ BK341 2, cz_ BK342 0, cz_ BK342 1, cz_ BK342 2⟩ (fun hHeld => ?_)
  clear hK K
  refine nm_ (some 24) ?_
  refine px_ HT_ 18 25 524287 ?_
  refine px_ HT_ 19 26 1048575 ?_
  refine px_ HT_ 20 27 2097151 ?_
  refine px_ HT_ 21 6 4194303 ?_
  refine done_ (done_of HT_.out (by kernel_rfl)) ?_
  try go_wp2
  go_ret
  exact ⟨es_, (bw_ HB).out⟩
 obtain rfl := si_ H
 go_enter Try.func51, Try.ntmps51
 try go_wp2_with (first | ((refine gd_ 4 ?_); refine by_ 4 #[.int .i64 a1_0, .int .i64 a1_1, .int .i64 a1_2] 31 HB ?_; intro gb341 hg w14 BK341 hb GW341 HB_; replace HB := HB_; clear hb hg) | ((refine gd_ 5 ?_); refine by_ 5 #[.int .i64 a2_0, .int .i64 a2_1, .int .i64 a2_2] 31 HB ?_; intro gb342 hg w15 BK342 hb GW342 HB_; have NB341_342 := bm_ BK341 hg; have NB342_341 := bn_ BK341 hg; replace BK341 := bb_ BK341 hb; replace HB := HB_; clear hb hg))
 replace BK341 := bd_ BK341
 replace BK342 := bd_ BK342
 replace HB := be_ HB
 refine start_ (n := 22) (S := fun w' => w'.cell? ⟨gb341, 0, none⟩ = some (.int .i64 a1_0) ∧ w'.cell? ⟨gb341, 1, none⟩ = some (.int .i64 a1_1) ∧ w'.cell? ⟨gb341, 2, none⟩ = some (.int .i64 a1_2) ∧ w'.cell? ⟨gb342, 0, none⟩ = some (.int .i64 a2_0) ∧ w'.cell? ⟨gb342, 1, none⟩ = some (.int .i64 a2_1) ∧ w'.cell? ⟨gb342, 2, none⟩ = some (.int .i64 a2_2)) (ds := []) (bv_ 22 0) (by kernel_rfl) rfl rfl ⟨cz_ BK341 0, cz_ BK341 1, cz_ BK341 2, cz_ BK342 0, cz_ BK342 1, cz_ BK342 2⟩ (fun hHeld => ?_); refine with_tabW impl_holds.tab1 impl_holds.bits1 (fun HT_ HW_ => ?_)
 generalize w15.drew = w16 at BK341 BK342 HB hHeld ⊢
 refine px_ HT_ 0 7 1 ?_
 refine px_ HT_ 2 9 5 ?_
 refine ta_ HT_ HW_ 1 (some 8) (bv_ 22 7) hHeld ?_ (hy := by rintro w' ⟨s0, s1, s2, s3, s4, s5⟩; go_simp; with_reducible rfl)
 refine ta_ HT_ HW_ 3 (some 10) (bv_ 22 15) hHeld ?_ (hy := by rintro w' ⟨s0, s1, s2, s3, s4, s5⟩; go_simp; with_reducible rfl)
 refine px_ HT_ 4 11 31 ?_
 refine px_ HT_ 5 12 63 ?_
 refine pv_ HT_ 6 (some 13) (bv_ 22 127) ?_
 refine pv_ HT_ 7 (some 14) (bv_ 22 255) ?_
 refine pv_ HT_ 8 (some 15) (bv_ 22 511) ?_
 refine pv_ HT_ 9 (some 16) (bv_ 22 1023) ?_
 refine pv_ HT_ 10 (some 17) (bv_ 22 2047) ?_
 refine pv_ HT_ 11 (some 18) (bv_ 22 4095) ?_
 refine pv_ HT_ 12 (some 19) (bv_ 22 8191) ?_
 refine pv_ HT_ 13 (some 20) (bv_ 22 16383) ?_
 refine pv_ HT_ 14 (some 21) (bv_ 22 32767) ?_
 refine pv_ HT_ 15 (some 22) (bv_ 22 65535) ?_
 refine pv_ HT_ 16 (some 23) (bv_ 22 131071) ?_
 refine pv_ HT_ 17 (some 24) (bv_ 22 262143) ?_
 refine pv_ HT_ 18 (some 25) (bv_ 22 524287) ?_
 refine pv_ HT_ 19 (some 26) (bv_ 22 1048575) ?_
 refine px_ HT_ 20 27 2097151 ?_
 refine px_ HT_ 21 6 4194303 ?_
 refine done_ (done_of HT_.out (by kernel_rfl)) ?_
 try go_wp2
 go_ret
 exact ⟨es_, (bw_ HB).out⟩
/-! ### impl_apart: function 92 -/
def impl_apart.f (k : Nat) (a0 a1_0 a1_1 a1_2 a2_0 a2_1 a2_2 : Int) : Option (Bool) := (impl_holds.f k a0 a1_0 a1_1 a1_2 a2_0 a2_1 a2_2).bind fun t348 => (if t348 = true then (some false) else ((impl_holds.f k a0 a2_0 a2_1 a2_2 a1_0 a1_1 a1_2).bind fun t349 => (some (!t349))))
theorem impl_apart.calls (k : Nat) (a0 a1_0 a1_1 a1_2 a2_0 a2_1 a2_2 : Int) (r : Bool) (w : World) (h : impl_apart.f k a0 a1_0 a1_1 a1_2 a2_0 a2_1 a2_2 = some r) :
  Calls Try.prog 92 #[.int .i64 a0, .agg #[.int .i64 a1_0, .int .i64 a1_1, .int .i64 a1_2], .agg #[.int .i64 a2_0, .int .i64 a2_1, .int .i64 a2_2]] w fun e w' => e = .returned (.bool r) ∧ Below w.heap.size w w' := by
 have hu31 := Try.underlying31
 have HB := Aside0.mk (Below.refl w.heap.size w)
 unfold impl_apart.f at h
 have H := h
 clear h
 replace H := oc_ H
 obtain ⟨t348, A4, H⟩ := H
 replace H := ib_ H
 rcases H with ⟨rfl, H⟩ | ⟨rfl, H⟩
 ·obtain rfl := si_ H
  go_enter Try.func92, Try.ntmps92
  go_wp2_with (first | ((refine gd_ 4 ?_); refine by_ 4 #[.int .i64 a1_0, .int .i64 a1_1, .int .i64 a1_2] 31 HB ?_; intro gb346 hg w6 BK346 hb GW346 HB_; replace HB := HB_; clear hb hg) | ((refine gd_ 5 ?_); refine by_ 5 #[.int .i64 a2_0, .int .i64 a2_1, .int .i64 a2_2] 31 HB ?_; intro gb347 hg w7 BK347 hb GW347 HB_; have NB346_347 := bm_ BK346 hg; have NB347_346 := bn_ BK346 hg; replace BK346 := bb_ BK346 hb; replace HB := HB_; clear hb hg; have hnb8 := NB346_347.out; have hnc8 := NB347_346.out; obtain ⟨hcz9_0, hcz9_1, hcz9_2, hfz9_0, hfz9_1, hfz9_2⟩ := ch3_ BK346; obtain ⟨hcz10_0, hcz10_1, hcz10_2, hfz10_0, hfz10_1, hfz10_2⟩ := ch3_ BK347) | ((refine gc_ 51 ?_); refine ge_ 10 Try.func51 #[.int .i64 a0, .agg #[.int .i64 a1_0, .int .i64 a1_1, .int .i64 a1_2], .agg #[.int .i64 a2_0, .int .i64 a2_1, .int .i64 a2_2]] ?_; (with_reducible refine (impl_holds.calls k a0 a1_0 a1_1 a1_2 a2_0 a2_1 a2_2 true _ A4.out).mono ?_); rintro e w11 ⟨rfl, hb⟩; refine ⟨_, rfl, ?_⟩; replace BK346 := bb_ BK346 hb; replace BK347 := bb_ BK347 hb; replace HB := bt_ HB hb; (try clear hb)))
  go_ret
  exact ⟨es_, (bw_ HB).out⟩
 replace H := oc_ H
 obtain ⟨t349, A12, H⟩ := H
 obtain rfl := si_ H
 go_enter Try.func92, Try.ntmps92
 go_wp2_with (first | ((refine gd_ 4 ?_); refine by_ 4 #[.int .i64 a1_0, .int .i64 a1_1, .int .i64 a1_2] 31 HB ?_; intro gb346 hg w13 BK346 hb GW346 HB_; replace HB := HB_; clear hb hg) | ((refine gd_ 5 ?_); refine by_ 5 #[.int .i64 a2_0, .int .i64 a2_1, .int .i64 a2_2] 31 HB ?_; intro gb347 hg w14 BK347 hb GW347 HB_; have NB346_347 := bm_ BK346 hg; have NB347_346 := bn_ BK346 hg; replace BK346 := bb_ BK346 hb; replace HB := HB_; clear hb hg; have hnb15 := NB346_347.out; have hnc15 := NB347_346.out; obtain ⟨hcz16_0, hcz16_1, hcz16_2, hfz16_0, hfz16_1, hfz16_2⟩ := ch3_ BK346; obtain ⟨hcz17_0, hcz17_1, hcz17_2, hfz17_0, hfz17_1, hfz17_2⟩ := ch3_ BK347) | ((refine gc_ 51 ?_); refine ge_ 10 Try.func51 #[.int .i64 a0, .agg #[.int .i64 a1_0, .int .i64 a1_1, .int .i64 a1_2], .agg #[.int .i64 a2_0, .int .i64 a2_1, .int .i64 a2_2]] ?_; (with_reducible refine (impl_holds.calls k a0 a1_0 a1_1 a1_2 a2_0 a2_1 a2_2 false _ A4.out).mono ?_); rintro e w18 ⟨rfl, hb⟩; refine ⟨_, rfl, ?_⟩; replace BK346 := bb_ BK346 hb; replace BK347 := bb_ BK347 hb; replace HB := bt_ HB hb; (try clear hb); obtain ⟨hcz19_0, hcz19_1, hcz19_2, hfz19_0, hfz19_1, hfz19_2⟩ := ch3_ BK347; obtain ⟨hcz20_0, hcz20_1, hcz20_2, hfz20_0, hfz20_1, hfz20_2⟩ := ch3_ BK346) | (go_at_call 51; (with_reducible refine (impl_holds.calls k a0 a2_0 a2_1 a2_2 a1_0 a1_1 a1_2 t349 _ A12.out).mono ?_); rintro e w21 ⟨rfl, hb⟩; replace BK346 := bb_ BK346 hb; replace BK347 := bb_ BK347 hb; replace HB := bt_ HB hb; (try clear hb)))
 go_ret
 exact ⟨es_, (bw_ HB).out⟩
end Go.Proofs.Ytdfcoebadjhjlaa.QI
