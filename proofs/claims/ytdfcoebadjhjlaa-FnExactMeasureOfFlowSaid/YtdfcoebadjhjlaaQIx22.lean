import Derived.Test.YtdfcoebadjhjlaaQIx5
namespace Go.Proofs.Ytdfcoebadjhjlaa.QI
set_option maxHeartbeats 8000000
set_option maxRecDepth 100000
open Go.RowKit Go.Proofs.YtdfcoebadjhjlaaW.PrintWords Go.Proofs.YtdfcoebadjhjlaaW.PrintLast Go.Proofs.YtdfcoebadjhjlaaW.PrintMore
attribute [local go_sem] isSome_setCell max2_int min2_int max_two min_two max_three min_three max_four min_four
set_option linter.unusedVariables false
set_option linter.unusedSimpArgs false

/-! ### spec_l01Power: function 68 -/
def spec_l01Power.l0 : Nat → Int → Int → Int → Option (Int)
 | 0, _, _, _ => none
 | k + 1, x0, x1, x5 => if x1 > 0 then (spec_l01Power.l0 k x0 (wrap64 (x1 - 1)) (wrap64 (x5 * x0))) else (some x5)
def spec_l01Power.f (k : Nat) (a0 a1 : Int) : Option (Int) := spec_l01Power.l0 k a0 a1 1
theorem spec_l01Power.calls (k : Nat) (a0 a1 r : Int) (w : World) (h : spec_l01Power.f k a0 a1 = some r) :
  Calls Try.prog 68 #[.int .i64 a0, .int .i64 a1] w fun e w' => e = .returned (.int .i64 r) ∧ Drawn0 w w' := by
 unfold spec_l01Power.f at h
 have H := h
 clear h
 have H' := Aside0.mk H
 clear H
 go_enter Try.func68, Try.ntmps68
 go_wp2
 go_loopg [1, 5] k (fun kq v1 v5 w' => ∃ (x1_1 : Int) (x5_1 : Int), v1 = .int .i64 x1_1 ∧ v5 = .int .i64 x5_1 ∧ Aside0 (spec_l01Power.l0 kq a0 x1_1 x5_1 = some r) ∧ Aside0 (kq ≤ k) ∧ Drawn0 w w')
 case atStart => exact ⟨(a1), (1), en_, en_, H', ⟨Nat.le_refl _⟩, de_⟩
 clear H'
 obtain ⟨x1_1, x5_1, rfl, rfl, HA, HK1, ⟨m1, rfl⟩⟩ := hrel
 cases gk with
 | zero => exact absurd HA.out (by simp [spec_l01Power.l0])
 | succ k1 =>
  have H := HA.out
  clear HA
  simp only [spec_l01Power.l0] at H
  replace H := ig_ H
  rcases H with ⟨c3b0, H⟩ | ⟨c3b0, H⟩
  ·have H' := Aside0.mk H
   clear H
   go_wp2
   go_roundg k1
   case measure => have := HK1.out; omega
   case rel => exact ⟨(wrap64 (x1_1 - 1)), (wrap64 (x5_1 * a0)), en_, en_, H', ⟨by have := HK1.out; omega⟩, de_⟩
  obtain rfl := si_ H
  go_wp2
  go_ret
  exact ⟨en_, de_⟩
/-! ### spec_l01In: function 42 -/
def spec_l01In.f (a0 a1 a2 : Int) : Option (Bool) := if a0 ≥ a1 then (some (decide (a0 ≤ a2))) else (some false)
theorem spec_l01In.calls (a0 a1 a2 : Int) (r : Bool) (w : World) (h : spec_l01In.f a0 a1 a2 = some r) :
  Calls Try.prog 42 #[.int .i64 a0, .int .i64 a1, .int .i64 a2] w fun e w' => e = .returned (.bool r) ∧ Drawn0 w w' := by
 unfold spec_l01In.f at h
 have H := h
 clear h
 replace H := in_ H
 rcases H with ⟨c4b0, H⟩ | ⟨c4b0, H⟩
 ·obtain rfl := si_ H
  go_enter Try.func42, Try.ntmps42
  go_wp2
  go_ret
  exact ⟨en_, de_⟩
 obtain rfl := si_ H
 go_enter Try.func42, Try.ntmps42
 go_wp2
 go_ret
 exact ⟨en_, de_⟩
/-! ### spec_l01Val: function 94 -/
def spec_l01Val.l0 : Nat → Int → Int → Int → Option (Int)
 | 0, _, _, _ => none
 | k + 1, x0, x1, x5 => if x0 = 0 then (none) else (if (Int.tmod x1 x0) = 0 then (spec_l01Val.l0 k x0 (wrap64 (Int.tdiv x1 x0)) (wrap64 (x5 + 1))) else (some x5))
def spec_l01Val.f (k : Nat) (a0 a1 : Int) : Option (Int) := spec_l01Val.l0 k a0 a1 0
theorem spec_l01Val.calls (k : Nat) (a0 a1 r : Int) (w : World) (h : spec_l01Val.f k a0 a1 = some r) :
  Calls Try.prog 94 #[.int .i64 a0, .int .i64 a1] w fun e w' => e = .returned (.int .i64 r) ∧ Drawn0 w w' := by
 unfold spec_l01Val.f at h
 have H := h
 clear h
 have H' := Aside0.mk H
 clear H
 go_enter Try.func94, Try.ntmps94
 go_wp2
 go_loopg [1, 5] k (fun kq v1 v5 w' => ∃ (x1_1 : Int) (x5_1 : Int), v1 = .int .i64 x1_1 ∧ v5 = .int .i64 x5_1 ∧ Aside0 (spec_l01Val.l0 kq a0 x1_1 x5_1 = some r) ∧ Aside0 (kq ≤ k) ∧ Drawn0 w w')
 case atStart => exact ⟨(a1), (0), en_, en_, H', ⟨Nat.le_refl _⟩, de_⟩
 clear H'
 obtain ⟨x1_1, x5_1, rfl, rfl, HA, HK1, ⟨m1, rfl⟩⟩ := hrel
 cases gk with
 | zero => exact absurd HA.out (by simp [spec_l01Val.l0])
 | succ k1 =>
  have H := HA.out
  clear HA
  simp only [spec_l01Val.l0] at H
  replace H := ief_ H
  obtain ⟨c3, c3b0, c3b1, H⟩ := H
  replace H := ie_ H
  rcases H with ⟨c4b0, c4b1, H⟩ | ⟨c4, c4b0, c4b1, H⟩
  ·have H' := Aside0.mk H
   clear H
   go_wp2
   go_roundg k1
   case measure => have := HK1.out; omega
   case rel => exact ⟨(wrap64 (Int.tdiv x1_1 a0)), (wrap64 (x5_1 + 1)), en_, en_, H', ⟨by have := HK1.out; omega⟩, de_⟩
  obtain rfl := si_ H
  go_wp2
  go_ret
  exact ⟨en_, de_⟩
/-! ### spec_l01MulMod: function 95 -/
def spec_l01MulMod.f (a0 a1 a2 : Int) : Option (Int) := if a2 = 0 then (none) else (some (Int.tmod (wrap64 ((Int.tmod (wrap64 ((Int.tmod (wrap64 ((Int.tmod (wrap64 ((Int.tmod a0 a2) + a2)) a2) * (wrap64 (Int.tdiv (Int.tmod (wrap64 ((Int.tmod a1 a2) + a2)) a2) 1000000)))) a2) * 1000000)) a2) + (Int.tmod (wrap64 ((Int.tmod (wrap64 ((Int.tmod a0 a2) + a2)) a2) * (Int.tmod (Int.tmod (wrap64 ((Int.tmod a1 a2) + a2)) a2) 1000000))) a2))) a2))
theorem spec_l01MulMod.calls (a0 a1 a2 r : Int) (w : World) (h : spec_l01MulMod.f a0 a1 a2 = some r) :
  Calls Try.prog 95 #[.int .i64 a0, .int .i64 a1, .int .i64 a2] w fun e w' => e = .returned (.int .i64 r) ∧ Drawn0 w w' := by
 unfold spec_l01MulMod.f at h
 have H := h
 clear h
 replace H := ief_ H
 obtain ⟨c4, c4b0, c4b1, H⟩ := H
 obtain rfl := si_ H
 go_enter Try.func95, Try.ntmps95
 go_wp2
 repeat (go_quiet (fail); try go_wp2)
 go_ret
 exact ⟨en_, de_⟩
/-! ### spec_l01InvMod: function 96 -/
def spec_l01InvMod.l0 : Nat → Int → Int → Int → Int → Int → Option (Int)
 | 0, _, _, _, _, _ => none
 | k + 1, x1, x5, x6, x7, x8 => if x6 = 0 then (if x1 = 0 then (none) else (some (Int.tmod (wrap64 ((Int.tmod x7 x1) + x1)) x1))) else (spec_l01InvMod.l0 k x1 x6 (wrap64 (x5 - (wrap64 ((wrap64 (Int.tdiv x5 x6)) * x6)))) x8 (wrap64 (x7 - (wrap64 ((wrap64 (Int.tdiv x5 x6)) * x8)))))
def spec_l01InvMod.f (k : Nat) (a0 a1 : Int) : Option (Int) := if a1 = 0 then (none) else (spec_l01InvMod.l0 k a1 (Int.tmod (wrap64 ((Int.tmod a0 a1) + a1)) a1) a1 1 0)
theorem spec_l01InvMod.calls (k : Nat) (a0 a1 r : Int) (w : World) (h : spec_l01InvMod.f k a0 a1 = some r) :
  Calls Try.prog 96 #[.int .i64 a0, .int .i64 a1] w fun e w' => e = .returned (.int .i64 r) ∧ Drawn0 w w' := by
 unfold spec_l01InvMod.f at h
 have H := h
 clear h
 replace H := ief_ H
 obtain ⟨c3, c3b0, c3b1, H⟩ := H
 have H' := Aside0.mk H
 clear H
 go_enter Try.func96, Try.ntmps96
 go_wp2
 go_loopg [5, 6, 7, 8] k (fun kq v5 v6 v7 v8 w' => ∃ (x5_1 : Int) (x6_1 : Int) (x7_1 : Int) (x8_1 : Int), v5 = .int .i64 x5_1 ∧ v6 = .int .i64 x6_1 ∧ v7 = .int .i64 x7_1 ∧ v8 = .int .i64 x8_1 ∧ Aside0 (spec_l01InvMod.l0 kq a1 x5_1 x6_1 x7_1 x8_1 = some r) ∧ Aside0 (kq ≤ k) ∧ Drawn0 w w')
 case atStart => exact ⟨(Int.tmod (wrap64 ((Int.tmod a0 a1) + a1)) a1), (a1), (1), (0), en_, en_, en_, en_, H', ⟨Nat.le_refl _⟩, de_⟩
 clear H'
 try clear c3
 try clear c3b0
 try clear c3b1
 obtain ⟨x5_1, x6_1, x7_1, x8_1, rfl, rfl, rfl, rfl, HA, HK1, ⟨m1, rfl⟩⟩ := hrel
 cases gk with
 | zero => exact absurd HA.out (by simp [spec_l01InvMod.l0])
 | succ k1 =>
  have H := HA.out
  clear HA
  simp only [spec_l01InvMod.l0] at H
  replace H := ie_ H
  rcases H with ⟨c4b0, c4b1, H⟩ | ⟨c4, c4b0, c4b1, H⟩
  ·replace H := ief_ H
   obtain ⟨c5, c5b0, c5b1, H⟩ := H
   obtain rfl := si_ H
   go_wp2
   go_ret
   exact ⟨en_, de_⟩
  have H' := Aside0.mk H
  clear H
  go_wp2
  go_roundg k1
  case measure => have := HK1.out; omega
  case rel => exact ⟨(x6_1), (wrap64 (x5_1 - (wrap64 ((wrap64 (Int.tdiv x5_1 x6_1)) * x6_1)))), (x8_1), (wrap64 (x7_1 - (wrap64 ((wrap64 (Int.tdiv x5_1 x6_1)) * x8_1)))), en_, en_, en_, en_, H', ⟨by have := HK1.out; omega⟩, de_⟩
/-! ### spec_l01Of: function 75 -/
def spec_l01Of.f (k : Nat) (a0 a1 a2 a3 : Int) : Option (Int × Int × Int × Bool) := (spec_l01In.f a3 (-6) 6).bind fun t140 => (if t140 = true then (if a1 = 0 then (some (a3, 0, 0, true)) else ((spec_l01Val.f k a0 a1).bind fun t142 => ((spec_l01Val.f k a0 a2).bind fun t143 => (if a3 ≤ (wrap64 (t142 - t143)) then (some (a3, 0, 0, true)) else (if (mx (wrap64 (t143 - t142)) 0) > 6 then (some (0, 0, 0, false)) else ((spec_l01Power.f k a0 (wrap64 (a3 + (mx (wrap64 (t143 - t142)) 0)))).bind fun t144 => ((spec_l01Power.f k a0 t142).bind fun t145 => (if t145 = 0 then (none) else ((spec_l01Power.f k a0 t143).bind fun t146 => (if t146 = 0 then (none) else ((spec_l01InvMod.f k (wrap64 (Int.tdiv a2 t146)) t144).bind fun t147 => ((spec_l01MulMod.f (wrap64 (Int.tdiv a1 t145)) t147 t144).bind fun t148 => ((spec_l01Power.f k a0 (mx (wrap64 (t142 - t143)) 0)).bind fun t149 => ((spec_l01MulMod.f t148 t149 t144).bind fun t150 => (some (a3, t150, mx (wrap64 (t143 - t142)) 0, true)))))))))))))))) else (some (0, 0, 0, false)))
theorem spec_l01Of.calls (k : Nat) (a0 a1 a2 a3 r1 r2 r3 : Int) (r4 : Bool) (w : World) (h : spec_l01Of.f k a0 a1 a2 a3 = some (r1, r2, r3, r4)) :
  Calls Try.prog 75 #[.int .i64 a0, .int .i64 a1, .int .i64 a2, .int .i64 a3] w fun e w' => e = .returned (.tuple #[.agg #[.int .i64 r1, .int .i64 r2, .int .i64 r3], .bool r4]) ∧ Below w.heap.size w w' := by
 have hu31 := Try.underlying31
 have HB := Aside0.mk (Below.refl w.heap.size w)
 unfold spec_l01Of.f at h
 have H := h
 clear h
 replace H := oc_ H
 obtain ⟨t140, A5, H⟩ := H
 replace H := ib_ H
 rcases H with ⟨rfl, H⟩ | ⟨rfl, H⟩
 ·replace H := ie_ H
  rcases H with ⟨c7b0, c7b1, H⟩ | ⟨c7, c7b0, c7b1, H⟩
  ·simp only [Option.some.injEq, Prod.mk.injEq] at H
   obtain ⟨rfl, rfl, rfl, rfl⟩ := H
   go_enter Try.func75, Try.ntmps75
   go_wp2_with (first | ((refine gd_ 8 ?_); refine by_ 8 #[.int .i64 0, .int .i64 0, .int .i64 0] 31 HB ?_; intro gb139 hg w8 BK139 hb GW139 HB_; replace HB := HB_; clear hb hg) | ((refine gc_ 42 ?_); refine ge_ 15 Try.func42 #[.int .i64 a3, .int .i64 (-6), .int .i64 6] ?_; (with_reducible refine (spec_l01In.calls a3 (-6) 6 true _ A5.out).mono ?_); rintro e w' ⟨rfl, ⟨nd, rfl⟩⟩; refine ⟨_, rfl, ?_⟩; (try (rw [drewN_self w8]; generalize hq_ : World.drewN w8 _ = w8; replace BK139 := bq_ BK139 hq_; replace HB := hq_' HB hq_; clear hq_))) | ((refine gd_ 10 ?_); refine by_ 10 #[.int .i64 0, .int .i64 0, .int .i64 0] 31 HB ?_; intro gb141 hg w9 BK141 hb GW141 HB_; have NB139_141 := bm_ BK139 hg; have NB141_139 := bn_ BK139 hg; replace BK139 := bb_ BK139 hb; replace HB := HB_; clear hb hg; have hnb10 := NB141_139.out; have hnc10 := NB139_141.out; obtain ⟨hcz11_0, hcz11_1, hcz11_2, hfz11_0, hfz11_1, hfz11_2⟩ := ch3_ BK141; obtain ⟨hcz12_0, hcz12_1, hcz12_2, hfz12_0, hfz12_1, hfz12_2⟩ := ch3_ BK139))
   refine bodyPost_ret (results_ct rfl _ _ gb139 31 #[.int .i64 a3, .int .i64 0, .int .i64 0] (0, 0) _ rfl (bp_ BK139).out Try.underlying31 rfl (by kernel_rfl)) rfl ?_
   exact ⟨es_, (bw_ HB).out⟩
  replace H := oc_ H
  obtain ⟨t142, A13, H⟩ := H
  replace H := oc_ H
  obtain ⟨t143, A14, H⟩ := H
  replace H := im_ H
  rcases H with ⟨c15b0, H⟩ | ⟨c15b0, H⟩
  ·simp only [Option.some.injEq, Prod.mk.injEq] at H
   obtain ⟨rfl, rfl, rfl, rfl⟩ := H
   go_enter Try.func75, Try.ntmps75
   go_wp2_with (first | ((refine gd_ 8 ?_); refine by_ 8 #[.int .i64 0, .int .i64 0, .int .i64 0] 31 HB ?_; intro gb139 hg w16 BK139 hb GW139 HB_; replace HB := HB_; clear hb hg) | ((refine gc_ 42 ?_); refine ge_ 15 Try.func42 #[.int .i64 a3, .int .i64 (-6), .int .i64 6] ?_; (with_reducible refine (spec_l01In.calls a3 (-6) 6 true _ A5.out).mono ?_); rintro e w' ⟨rfl, ⟨nd, rfl⟩⟩; refine ⟨_, rfl, ?_⟩; (try (rw [drewN_self w16]; generalize hq_ : World.drewN w16 _ = w16; replace BK139 := bq_ BK139 hq_; replace HB := hq_' HB hq_; clear hq_))) | ((refine gd_ 10 ?_); refine by_ 10 #[.int .i64 0, .int .i64 0, .int .i64 0] 31 HB ?_; intro gb141 hg w17 BK141 hb GW141 HB_; have NB139_141 := bm_ BK139 hg; have NB141_139 := bn_ BK139 hg; replace BK139 := bb_ BK139 hb; replace HB := HB_; clear hb hg; have hnb18 := NB141_139.out; have hnc18 := NB139_141.out; obtain ⟨hcz19_0, hcz19_1, hcz19_2, hfz19_0, hfz19_1, hfz19_2⟩ := ch3_ BK141) | ((refine gc_ 94 ?_); refine ge_ 25 Try.func94 #[.int .i64 a0, .int .i64 a1] ?_; (with_reducible refine (spec_l01Val.calls k a0 a1 t142 _ A13.out).mono ?_); rintro e w' ⟨rfl, ⟨nd, rfl⟩⟩; refine ⟨_, rfl, ?_⟩) | ((refine gc_ 94 ?_); refine ge_ 28 Try.func94 #[.int .i64 a0, .int .i64 a2] ?_; (with_reducible refine (spec_l01Val.calls k a0 a2 t143 _ A14.out).mono ?_); rintro e w' ⟨rfl, ⟨nd, rfl⟩⟩; refine ⟨_, rfl, ?_⟩; obtain ⟨hcz20_0, hcz20_1, hcz20_2, hfz20_0, hfz20_1, hfz20_2⟩ := ch3_ BK139))
   refine bodyPost_ret (results_ct rfl _ _ gb139 31 #[.int .i64 a3, .int .i64 0, .int .i64 0] (0, 0) _ rfl (bp_ BK139).out Try.underlying31 rfl (by kernel_rfl)) rfl ?_
   exact ⟨es_, (bw_ HB).out⟩
  obtain ⟨ji21, hji21⟩ : ∃ j_ : Int, (mx (wrap64 (t143 - t142)) 0) = j_ := ⟨_, rfl⟩
  replace H : (if (ji21) > 6 then (some (0, 0, 0, false)) else ((spec_l01Power.f k a0 (wrap64 (a3 + (ji21)))).bind fun t144 => ((spec_l01Power.f k a0 t142).bind fun t145 => (if t145 = 0 then (none) else ((spec_l01Power.f k a0 t143).bind fun t146 => (if t146 = 0 then (none) else ((spec_l01InvMod.f k (wrap64 (Int.tdiv a2 t146)) t144).bind fun t147 => ((spec_l01MulMod.f (wrap64 (Int.tdiv a1 t145)) t147 t144).bind fun t148 => ((spec_l01Power.f k a0 (mx (wrap64 (t142 - t143)) 0)).bind fun t149 => ((spec_l01MulMod.f t148 t149 t144).bind fun t150 => (some (a3, t150, ji21, true)))))))))))) = some (r1, r2, r3, r4) := by first | (rw [hji21] at H; exact H) | (simp only [hji21] at H ⊢; exact H)
  (try rw [hji21] at A5)
  (try rw [hji21] at A13)
  (try rw [hji21] at A14)
  (try (have hji21l : 0 ≤ ji21 := by (rw [← hji21]; unfold mx; (repeat' split) <;> omega)))
  (try (have hji21m : 0 ≤ ji21 := by omega))
  have hji21_ : (if (wrap64 (t143 - t142)) < 0 then 0 else (wrap64 (t143 - t142))) = ji21 := hji21
  replace H := ig_ H
  rcases H with ⟨c22b0, H⟩ | ⟨c22b0, H⟩
  ·simp only [Option.some.injEq, Prod.mk.injEq] at H
   obtain ⟨rfl, rfl, rfl, rfl⟩ := H
   go_enter Try.func75, Try.ntmps75
   go_wp2_with (first | ((refine gd_ 8 ?_); refine by_ 8 #[.int .i64 0, .int .i64 0, .int .i64 0] 31 HB ?_; intro gb139 hg w23 BK139 hb GW139 HB_; replace HB := HB_; clear hb hg) | ((refine gc_ 42 ?_); refine ge_ 15 Try.func42 #[.int .i64 a3, .int .i64 (-6), .int .i64 6] ?_; (with_reducible refine (spec_l01In.calls a3 (-6) 6 true _ A5.out).mono ?_); rintro e w' ⟨rfl, ⟨nd, rfl⟩⟩; refine ⟨_, rfl, ?_⟩; (try (rw [drewN_self w23]; generalize hq_ : World.drewN w23 _ = w23; replace BK139 := bq_ BK139 hq_; replace HB := hq_' HB hq_; clear hq_))) | ((refine gd_ 10 ?_); refine by_ 10 #[.int .i64 0, .int .i64 0, .int .i64 0] 31 HB ?_; intro gb141 hg w24 BK141 hb GW141 HB_; have NB139_141 := bm_ BK139 hg; have NB141_139 := bn_ BK139 hg; replace BK139 := bb_ BK139 hb; replace HB := HB_; clear hb hg; have hnb25 := NB141_139.out; have hnc25 := NB139_141.out; obtain ⟨hcz26_0, hcz26_1, hcz26_2, hfz26_0, hfz26_1, hfz26_2⟩ := ch3_ BK141) | ((refine gc_ 94 ?_); refine ge_ 25 Try.func94 #[.int .i64 a0, .int .i64 a1] ?_; (with_reducible refine (spec_l01Val.calls k a0 a1 t142 _ A13.out).mono ?_); rintro e w' ⟨rfl, ⟨nd, rfl⟩⟩; refine ⟨_, rfl, ?_⟩) | ((refine gc_ 94 ?_); refine ge_ 28 Try.func94 #[.int .i64 a0, .int .i64 a2] ?_; (with_reducible refine (spec_l01Val.calls k a0 a2 t143 _ A14.out).mono ?_); rintro e w' ⟨rfl, ⟨nd, rfl⟩⟩; refine ⟨_, rfl, ?_⟩; obtain ⟨hcz27_0, hcz27_1, hcz27_2, hfz27_0, hfz27_1, hfz27_2⟩ := ch3_ BK139))
   refine bodyPost_ret (results_ct rfl _ _ gb139 31 #[.int .i64 0, .int .i64 0, .int .i64 0] (0, 0) _ rfl (bp_ BK139).out Try.underlying31 rfl (by kernel_rfl)) rfl ?_
   exact ⟨by first | rfl | (simp [errW_none, errW_some] <;> rfl) | (simp only [← hji21]; first | rfl | (simp [errW_none, errW_some] <;> rfl)) | (simp [*, errW_none, errW_some] <;> rfl), (bw_ HB).out⟩
  replace H := oc_ H
  obtain ⟨t144, A28, H⟩ := H
  replace H := oc_ H
  obtain ⟨t145, A29, H⟩ := H
  replace H := ief_ H
  obtain ⟨c30, c30b0, c30b1, H⟩ := H
  replace H := oc_ H
  obtain ⟨t146, A31, H⟩ := H
  replace H := ief_ H
  obtain ⟨c32, c32b0, c32b1, H⟩ := H
  replace H := oc_ H
  obtain ⟨t147, A33, H⟩ := H
  replace H := oc_ H
  obtain ⟨t148, A34, H⟩ := H
  obtain ⟨ji35, hji35⟩ : ∃ j_ : Int, (mx (wrap64 (t142 - t143)) 0) = j_ := ⟨_, rfl⟩
  replace H : ((spec_l01Power.f k a0 (ji35)).bind fun t149 => ((spec_l01MulMod.f t148 t149 t144).bind fun t150 => (some (a3, t150, ji21, true)))) = some (r1, r2, r3, r4) := by first | (rw [hji35] at H; exact H) | (simp only [hji35] at H ⊢; exact H)
  (try rw [hji35] at A5)
  (try rw [hji35] at A13)
  (try rw [hji35] at A14)
  (try rw [hji35] at A28)
  (try rw [hji35] at A29)
  (try rw [hji35] at A31)
  (try rw [hji35] at A33)
  (try rw [hji35] at A34)
  (try (have hji35l : 0 ≤ ji35 := by (rw [← hji35]; unfold mx; (repeat' split) <;> omega)))
  (try (have hji35m : 0 ≤ ji35 := by omega))
  have hji35_ : (if (wrap64 (t142 - t143)) < 0 then 0 else (wrap64 (t142 - t143))) = ji35 := hji35
  replace H := oc_ H
  obtain ⟨t149, A36, H⟩ := H
  replace H := oc_ H
  obtain ⟨t150, A37, H⟩ := H
  simp only [Option.some.injEq, Prod.mk.injEq] at H
  obtain ⟨rfl, rfl, rfl, rfl⟩ := H
  go_enter Try.func75, Try.ntmps75
  go_wp2_with (first | ((refine gd_ 8 ?_); refine by_ 8 #[.int .i64 0, .int .i64 0, .int .i64 0] 31 HB ?_; intro gb139 hg w38 BK139 hb GW139 HB_; replace HB := HB_; clear hb hg) | ((refine gc_ 42 ?_); refine ge_ 15 Try.func42 #[.int .i64 a3, .int .i64 (-6), .int .i64 6] ?_; (with_reducible refine (spec_l01In.calls a3 (-6) 6 true _ A5.out).mono ?_); rintro e w' ⟨rfl, ⟨nd, rfl⟩⟩; refine ⟨_, rfl, ?_⟩; (try (rw [drewN_self w38]; generalize hq_ : World.drewN w38 _ = w38; replace BK139 := bq_ BK139 hq_; replace HB := hq_' HB hq_; clear hq_))) | ((refine gd_ 10 ?_); refine by_ 10 #[.int .i64 0, .int .i64 0, .int .i64 0] 31 HB ?_; intro gb141 hg w39 BK141 hb GW141 HB_; have NB139_141 := bm_ BK139 hg; have NB141_139 := bn_ BK139 hg; replace BK139 := bb_ BK139 hb; replace HB := HB_; clear hb hg; have hnb40 := NB141_139.out; have hnc40 := NB139_141.out; obtain ⟨hcz41_0, hcz41_1, hcz41_2, hfz41_0, hfz41_1, hfz41_2⟩ := ch3_ BK141) | ((refine gc_ 94 ?_); refine ge_ 25 Try.func94 #[.int .i64 a0, .int .i64 a1] ?_; (with_reducible refine (spec_l01Val.calls k a0 a1 t142 _ A13.out).mono ?_); rintro e w' ⟨rfl, ⟨nd, rfl⟩⟩; refine ⟨_, rfl, ?_⟩) | ((refine gc_ 94 ?_); refine ge_ 28 Try.func94 #[.int .i64 a0, .int .i64 a2] ?_; (with_reducible refine (spec_l01Val.calls k a0 a2 t143 _ A14.out).mono ?_); rintro e w' ⟨rfl, ⟨nd, rfl⟩⟩; refine ⟨_, rfl, ?_⟩) | ((refine gc_ 68 ?_); refine ge_ 49 Try.func68 #[.int .i64 a0, .int .i64 (wrap64 (a3 + (ji21)))] ?_ (hargs := by (try simp only [List.map_toArray, List.map_cons, List.map_nil]); first | done | (simp only [hji21]; rfl) | rfl | (simp only [List.length_drop, List.length_take]; rfl)); (with_reducible refine (spec_l01Power.calls k a0 (wrap64 (a3 + (ji21))) t144 _ A28.out).mono ?_); rintro e w' ⟨rfl, ⟨nd, rfl⟩⟩; refine ⟨_, rfl, ?_⟩) | ((refine gc_ 68 ?_); refine ge_ 53 Try.func68 #[.int .i64 a0, .int .i64 t142] ?_; (with_reducible refine (spec_l01Power.calls k a0 t142 t145 _ A29.out).mono ?_); rintro e w' ⟨rfl, ⟨nd, rfl⟩⟩; refine ⟨_, rfl, ?_⟩) | ((refine gc_ 68 ?_); refine ge_ 58 Try.func68 #[.int .i64 a0, .int .i64 t143] ?_; (with_reducible refine (spec_l01Power.calls k a0 t143 t146 _ A31.out).mono ?_); rintro e w' ⟨rfl, ⟨nd, rfl⟩⟩; refine ⟨_, rfl, ?_⟩) | ((refine gc_ 96 ?_); refine ge_ 63 Try.func96 #[.int .i64 (wrap64 (Int.tdiv a2 t146)), .int .i64 t144] ?_; (with_reducible refine (spec_l01InvMod.calls k (wrap64 (Int.tdiv a2 t146)) t144 t147 _ A33.out).mono ?_); rintro e w' ⟨rfl, ⟨nd, rfl⟩⟩; refine ⟨_, rfl, ?_⟩) | ((refine gc_ 95 ?_); refine ge_ 65 Try.func95 #[.int .i64 (wrap64 (Int.tdiv a1 t145)), .int .i64 t147, .int .i64 t144] ?_; (with_reducible refine (spec_l01MulMod.calls (wrap64 (Int.tdiv a1 t145)) t147 t144 t148 _ A34.out).mono ?_); rintro e w' ⟨rfl, ⟨nd, rfl⟩⟩; refine ⟨_, rfl, ?_⟩) | ((refine gc_ 68 ?_); refine ge_ 71 Try.func68 #[.int .i64 a0, .int .i64 ji35] ?_ (hargs := by (try simp only [List.map_toArray, List.map_cons, List.map_nil]); first | done | (simp only [hji35]; rfl) | rfl | (simp only [List.length_drop, List.length_take]; rfl)); (with_reducible refine (spec_l01Power.calls k a0 ji35 t149 _ A36.out).mono ?_); rintro e w' ⟨rfl, ⟨nd, rfl⟩⟩; refine ⟨_, rfl, ?_⟩) | ((refine gc_ 95 ?_); refine ge_ 73 Try.func95 #[.int .i64 t148, .int .i64 t149, .int .i64 t144] ?_; (with_reducible refine (spec_l01MulMod.calls t148 t149 t144 t150 _ A37.out).mono ?_); rintro e w' ⟨rfl, ⟨nd, rfl⟩⟩; refine ⟨_, rfl, ?_⟩; obtain ⟨hcz42_0, hcz42_1, hcz42_2, hfz42_0, hfz42_1, hfz42_2⟩ := ch3_ BK139))
  refine bodyPost_ret (results_ct rfl _ _ gb139 31 #[.int .i64 a3, .int .i64 t150, .int .i64 ji21] (0, 0) _ rfl (bp_ BK139).out Try.underlying31 rfl (by kernel_rfl)) rfl ?_
  exact ⟨by first | rfl | (simp [errW_none, errW_some] <;> rfl) | (simp only [← hji21, ← hji35]; first | rfl | (simp [errW_none, errW_some] <;> rfl)) | (simp [*, errW_none, errW_some] <;> rfl), (bw_ HB).out⟩
 simp only [Option.some.injEq, Prod.mk.injEq] at H
 obtain ⟨rfl, rfl, rfl, rfl⟩ := H
 go_enter Try.func75, Try.ntmps75
 go_wp2_with (first | ((refine gd_ 8 ?_); refine by_ 8 #[.int .i64 0, .int .i64 0, .int .i64 0] 31 HB ?_; intro gb139 hg w43 BK139 hb GW139 HB_; replace HB := HB_; clear hb hg) | ((refine gc_ 42 ?_); refine ge_ 15 Try.func42 #[.int .i64 a3, .int .i64 (-6), .int .i64 6] ?_; (with_reducible refine (spec_l01In.calls a3 (-6) 6 false _ A5.out).mono ?_); rintro e w' ⟨rfl, ⟨nd, rfl⟩⟩; refine ⟨_, rfl, ?_⟩; (try (rw [drewN_self w43]; generalize hq_ : World.drewN w43 _ = w43; replace BK139 := bq_ BK139 hq_; replace HB := hq_' HB hq_; clear hq_)); obtain ⟨hcz44_0, hcz44_1, hcz44_2, hfz44_0, hfz44_1, hfz44_2⟩ := ch3_ BK139))
 refine bodyPost_ret (results_ct rfl _ _ gb139 31 #[.int .i64 0, .int .i64 0, .int .i64 0] (0, 0) _ rfl (bp_ BK139).out Try.underlying31 rfl (by kernel_rfl)) rfl ?_
 exact ⟨es_, (bw_ HB).out⟩
end Go.Proofs.Ytdfcoebadjhjlaa.QI
