import Derived.Test.YtdfcoebadjhjlaaQFx9
import Derived.Test.YtdfcoebadjhjlaaQFx41
import Derived.Test.YtdfcoebadjhjlaaQFx44
namespace Go.Proofs.Ytdfcoebadjhjlaa.QF
set_option maxHeartbeats 8000000
set_option maxRecDepth 100000
open Go.RowKit Go.Proofs.YtdfcoebadjhjlaaW.PrintWords Go.Proofs.YtdfcoebadjhjlaaW.PrintLast Go.Proofs.YtdfcoebadjhjlaaW.PrintMore
attribute [local go_sem] isSome_setCell max2_int min2_int max_two min_two max_three min_three max_four min_four
set_option linter.unusedVariables false
set_option linter.unusedSimpArgs false

/-! ### impl_FlowOf: function 10 -/
def impl_FlowOf.f (k : Nat) (a0 a1_0 a1_1 a1_2 : Int) (l1_3 : List (S72)) : Option ((List (S63)) × Int) := (impl_IsMeasure.f k a0 a1_0 a1_1 a1_2 l1_3).bind fun t378 => (if t378 = true then ((impl_flowOf.f k a0 a1_0 a1_1 a1_2 l1_3).bind fun bt379 => (if bt379.2 = true then (some (bt379.1, 0)) else (some (([] : List (S63)), 3)))) else (some (([] : List (S63)), 1)))
theorem impl_FlowOf.calls (k : Nat) (a0 a1_0 a1_1 a1_2 : Int) (A1_3 : Option Addr) (c1_3 : Nat) (l1_3 : List (S72)) (r1 : List (S63)) (r2 : Int) (w : World) (hr1_3 : Kd.C k72 w A1_3 l1_3.length l1_3) (hc1_3 : l1_3.length ≤ c1_3) (h : impl_FlowOf.f k a0 a1_0 a1_1 a1_2 l1_3 = some (r1, r2)) :
  Calls Try.prog 10 #[.int .i64 a0, .agg #[.int .i64 a1_0, .int .i64 a1_1, .int .i64 a1_2, .slice A1_3 l1_3.length c1_3]] w fun e w' => ∃ v0_ : Value, e = .returned (.tuple #[v0_, .int .i64 r2]) ∧ Kd.R k63 63 w' w.heap.size (fun _ => True) v0_ r1 ∧ Below w.heap.size w w' := by
 have hu34 := Try.underlying34
 have HR1_3 := Aside0.mk hr1_3
 have HC1_3 := Aside0.mk hc1_3
 clear hr1_3 hc1_3
 have HB := Aside0.mk (Below.refl w.heap.size w)
 unfold impl_FlowOf.f at h
 have H := h
 clear h
 replace H := oc_ H
 obtain ⟨t378, A3, H⟩ := H
 replace H := ib_ H
 rcases H with ⟨rfl, H⟩ | ⟨rfl, H⟩
 ·replace H := oc_ H
  obtain ⟨⟨t379, t382⟩, A5, H⟩ := H
  replace H := ib_ H
  rcases H with ⟨rfl, H⟩ | ⟨rfl, H⟩
  ·simp only [Option.some.injEq, Prod.mk.injEq] at H
   obtain ⟨rfl, rfl⟩ := H
   go_enter Try.func10, Try.ntmps10
   go_wp2_with (first | ((refine gd_ 3 ?_); refine by_ 3 #[.int .i64 a1_0, .int .i64 a1_1, .int .i64 a1_2, .slice A1_3 l1_3.length c1_3] 34 HB ?_; intro gb377 hg w7 BK377 hb GW377 HB_; replace HB := HB_; clear hb hg; obtain ⟨hcz8_0, hcz8_1, hcz8_2, hcz8_3, hfz8_0, hfz8_1, hfz8_2, hfz8_3⟩ := ch4_ BK377) | ((refine gc_ 33 ?_); refine ge_ 10 Try.func33 #[.int .i64 a0, .agg #[.int .i64 a1_0, .int .i64 a1_1, .int .i64 a1_2, .slice A1_3 l1_3.length c1_3]] ?_; (with_reducible refine (impl_IsMeasure.calls k a0 a1_0 a1_1 a1_2 _ _ l1_3 true _ ?side1 ?side2 A3.out).mono ?_); (case side1 => exact ca_ (Kd.C_below HR1_3.out HB.out)); (case side2 => exact HC1_3.out); rintro e w9 ⟨rfl, hb⟩; refine ⟨_, rfl, ?_⟩; replace BK377 := bb_ BK377 hb; replace HB := bt_ HB hb; (try clear hb); obtain ⟨hcz10_0, hcz10_1, hcz10_2, hcz10_3, hfz10_0, hfz10_1, hfz10_2, hfz10_3⟩ := ch4_ BK377) | ((refine gc_ 34 ?_); refine ge_ 15 Try.func34 #[.int .i64 a0, .agg #[.int .i64 a1_0, .int .i64 a1_1, .int .i64 a1_2, .slice A1_3 l1_3.length c1_3]] ?_; (with_reducible refine (impl_flowOf.calls k a0 a1_0 a1_1 a1_2 _ _ l1_3 t379 true _ ?side1 ?side2 A5.out).mono ?_); (case side1 => exact ca_ (Kd.C_below HR1_3.out HB.out)); (case side2 => exact HC1_3.out); rintro e w11 ⟨v380, rfl, ho0, hb⟩; refine ⟨_, rfl, ?_⟩; have HO381 := Aside0.mk (Kd.R_lower ho0 (below_size (bw_ HB).out)); replace BK377 := bb_ BK377 hb; replace HB := bt_ HB hb; (try clear hb); (try clear ho0)))
   go_ret2
   exact ⟨_, es_, by (with_reducible repeat (first | apply Kd.R_alloc | apply Kd.R_drewN | apply Kd.R_drew)); exact HO381.out, (bw_ HB).out⟩
  simp only [Option.some.injEq, Prod.mk.injEq] at H
  obtain ⟨rfl, rfl⟩ := H
  go_enter Try.func10, Try.ntmps10
  go_wp2_with (first | ((refine gd_ 3 ?_); refine by_ 3 #[.int .i64 a1_0, .int .i64 a1_1, .int .i64 a1_2, .slice A1_3 l1_3.length c1_3] 34 HB ?_; intro gb377 hg w12 BK377 hb GW377 HB_; replace HB := HB_; clear hb hg; obtain ⟨hcz13_0, hcz13_1, hcz13_2, hcz13_3, hfz13_0, hfz13_1, hfz13_2, hfz13_3⟩ := ch4_ BK377) | ((refine gc_ 33 ?_); refine ge_ 10 Try.func33 #[.int .i64 a0, .agg #[.int .i64 a1_0, .int .i64 a1_1, .int .i64 a1_2, .slice A1_3 l1_3.length c1_3]] ?_; (with_reducible refine (impl_IsMeasure.calls k a0 a1_0 a1_1 a1_2 _ _ l1_3 true _ ?side1 ?side2 A3.out).mono ?_); (case side1 => exact ca_ (Kd.C_below HR1_3.out HB.out)); (case side2 => exact HC1_3.out); rintro e w14 ⟨rfl, hb⟩; refine ⟨_, rfl, ?_⟩; replace BK377 := bb_ BK377 hb; replace HB := bt_ HB hb; (try clear hb); obtain ⟨hcz15_0, hcz15_1, hcz15_2, hcz15_3, hfz15_0, hfz15_1, hfz15_2, hfz15_3⟩ := ch4_ BK377) | ((refine gc_ 34 ?_); refine ge_ 15 Try.func34 #[.int .i64 a0, .agg #[.int .i64 a1_0, .int .i64 a1_1, .int .i64 a1_2, .slice A1_3 l1_3.length c1_3]] ?_; (with_reducible refine (impl_flowOf.calls k a0 a1_0 a1_1 a1_2 _ _ l1_3 t379 false _ ?side1 ?side2 A5.out).mono ?_); (case side1 => exact ca_ (Kd.C_below HR1_3.out HB.out)); (case side2 => exact HC1_3.out); rintro e w16 ⟨v380, rfl, ho0, hb⟩; refine ⟨_, rfl, ?_⟩; have HO381 := Aside0.mk (Kd.R_lower ho0 (below_size (bw_ HB).out)); replace BK377 := bb_ BK377 hb; replace HB := bt_ HB hb; (try clear hb); (try clear ho0)))
  go_ret2
  exact ⟨_, es_, by first | exact Kd.R_nil _ _ _ _ _ | exact Kd.N_nil _ _ _ _ _ | exact Kd.V_nil _ _ _ _ _ | exact Kd.Q_nil _ _ _ _ _ | exact Kd.S_nil _ _ _ _ _, (bw_ HB).out⟩
 simp only [Option.some.injEq, Prod.mk.injEq] at H
 obtain ⟨rfl, rfl⟩ := H
 go_enter Try.func10, Try.ntmps10
 go_wp2_with (first | ((refine gd_ 3 ?_); refine by_ 3 #[.int .i64 a1_0, .int .i64 a1_1, .int .i64 a1_2, .slice A1_3 l1_3.length c1_3] 34 HB ?_; intro gb377 hg w17 BK377 hb GW377 HB_; replace HB := HB_; clear hb hg; obtain ⟨hcz18_0, hcz18_1, hcz18_2, hcz18_3, hfz18_0, hfz18_1, hfz18_2, hfz18_3⟩ := ch4_ BK377) | ((refine gc_ 33 ?_); refine ge_ 10 Try.func33 #[.int .i64 a0, .agg #[.int .i64 a1_0, .int .i64 a1_1, .int .i64 a1_2, .slice A1_3 l1_3.length c1_3]] ?_; (with_reducible refine (impl_IsMeasure.calls k a0 a1_0 a1_1 a1_2 _ _ l1_3 false _ ?side1 ?side2 A3.out).mono ?_); (case side1 => exact ca_ (Kd.C_below HR1_3.out HB.out)); (case side2 => exact HC1_3.out); rintro e w19 ⟨rfl, hb⟩; refine ⟨_, rfl, ?_⟩; replace BK377 := bb_ BK377 hb; replace HB := bt_ HB hb; (try clear hb)))
 go_ret2
 exact ⟨_, es_, by first | exact Kd.R_nil _ _ _ _ _ | exact Kd.N_nil _ _ _ _ _ | exact Kd.V_nil _ _ _ _ _ | exact Kd.Q_nil _ _ _ _ _ | exact Kd.S_nil _ _ _ _ _, (bw_ HB).out⟩
/-! ### laws_eqBall: function 36 -/
def laws_eqBall.f (a0_0 a0_1 a0_2 a1_0 a1_1 a1_2 : Int) : Option (Bool) := if a0_0 = a1_0 then (if a0_1 = a1_1 then (if a0_2 = a1_2 then (some true) else (some false)) else (some false)) else (some false)
theorem laws_eqBall.calls (a0_0 a0_1 a0_2 a1_0 a1_1 a1_2 : Int) (r : Bool) (w : World) (h : laws_eqBall.f a0_0 a0_1 a0_2 a1_0 a1_1 a1_2 = some r) :
  Calls Try.prog 36 #[.agg #[.int .i64 a0_0, .int .i64 a0_1, .int .i64 a0_2], .agg #[.int .i64 a1_0, .int .i64 a1_1, .int .i64 a1_2]] w fun e w' => e = .returned (.bool r) ∧ Below w.heap.size w w' := by
 have hu31 := Try.underlying31
 have HB := Aside0.mk (Below.refl w.heap.size w)
 unfold laws_eqBall.f at h
 have H := h
 clear h
 replace H := ie_ H
 rcases H with ⟨c3b0, c3b1, H⟩ | ⟨c3, c3b0, c3b1, H⟩
 ·replace H := ie_ H
  rcases H with ⟨c4b0, c4b1, H⟩ | ⟨c4, c4b0, c4b1, H⟩
  ·replace H := ie_ H
   rcases H with ⟨c5b0, c5b1, H⟩ | ⟨c5, c5b0, c5b1, H⟩
   ·obtain rfl := si_ H
    go_enter Try.func36, Try.ntmps36
    go_wp2_with (first | ((refine gd_ 2 ?_); refine by_ 2 #[.int .i64 a0_0, .int .i64 a0_1, .int .i64 a0_2] 31 HB ?_; intro gb383 hg w6 BK383 hb GW383 HB_; replace HB := HB_; clear hb hg) | ((refine gd_ 3 ?_); refine by_ 3 #[.int .i64 a1_0, .int .i64 a1_1, .int .i64 a1_2] 31 HB ?_; intro gb384 hg w7 BK384 hb GW384 HB_; have NB383_384 := bm_ BK383 hg; have NB384_383 := bn_ BK383 hg; replace BK383 := bb_ BK383 hb; replace HB := HB_; clear hb hg; have hnb8 := NB383_384.out; have hnc8 := NB384_383.out; obtain ⟨hcz9_0, hcz9_1, hcz9_2, hfz9_0, hfz9_1, hfz9_2⟩ := ch3_ BK383; obtain ⟨hcz10_0, hcz10_1, hcz10_2, hfz10_0, hfz10_1, hfz10_2⟩ := ch3_ BK384))
    go_ret
    exact ⟨es_, (bw_ HB).out⟩
   obtain rfl := si_ H
   go_enter Try.func36, Try.ntmps36
   go_wp2_with (first | ((refine gd_ 2 ?_); refine by_ 2 #[.int .i64 a0_0, .int .i64 a0_1, .int .i64 a0_2] 31 HB ?_; intro gb383 hg w11 BK383 hb GW383 HB_; replace HB := HB_; clear hb hg) | ((refine gd_ 3 ?_); refine by_ 3 #[.int .i64 a1_0, .int .i64 a1_1, .int .i64 a1_2] 31 HB ?_; intro gb384 hg w12 BK384 hb GW384 HB_; have NB383_384 := bm_ BK383 hg; have NB384_383 := bn_ BK383 hg; replace BK383 := bb_ BK383 hb; replace HB := HB_; clear hb hg; have hnb13 := NB383_384.out; have hnc13 := NB384_383.out; obtain ⟨hcz14_0, hcz14_1, hcz14_2, hfz14_0, hfz14_1, hfz14_2⟩ := ch3_ BK383; obtain ⟨hcz15_0, hcz15_1, hcz15_2, hfz15_0, hfz15_1, hfz15_2⟩ := ch3_ BK384))
   go_ret
   exact ⟨es_, (bw_ HB).out⟩
  obtain rfl := si_ H
  go_enter Try.func36, Try.ntmps36
  go_wp2_with (first | ((refine gd_ 2 ?_); refine by_ 2 #[.int .i64 a0_0, .int .i64 a0_1, .int .i64 a0_2] 31 HB ?_; intro gb383 hg w16 BK383 hb GW383 HB_; replace HB := HB_; clear hb hg) | ((refine gd_ 3 ?_); refine by_ 3 #[.int .i64 a1_0, .int .i64 a1_1, .int .i64 a1_2] 31 HB ?_; intro gb384 hg w17 BK384 hb GW384 HB_; have NB383_384 := bm_ BK383 hg; have NB384_383 := bn_ BK383 hg; replace BK383 := bb_ BK383 hb; replace HB := HB_; clear hb hg; have hnb18 := NB383_384.out; have hnc18 := NB384_383.out; obtain ⟨hcz19_0, hcz19_1, hcz19_2, hfz19_0, hfz19_1, hfz19_2⟩ := ch3_ BK383; obtain ⟨hcz20_0, hcz20_1, hcz20_2, hfz20_0, hfz20_1, hfz20_2⟩ := ch3_ BK384))
  go_ret
  exact ⟨es_, (bw_ HB).out⟩
 obtain rfl := si_ H
 go_enter Try.func36, Try.ntmps36
 go_wp2_with (first | ((refine gd_ 2 ?_); refine by_ 2 #[.int .i64 a0_0, .int .i64 a0_1, .int .i64 a0_2] 31 HB ?_; intro gb383 hg w21 BK383 hb GW383 HB_; replace HB := HB_; clear hb hg) | ((refine gd_ 3 ?_); refine by_ 3 #[.int .i64 a1_0, .int .i64 a1_1, .int .i64 a1_2] 31 HB ?_; intro gb384 hg w22 BK384 hb GW384 HB_; have NB383_384 := bm_ BK383 hg; have NB384_383 := bn_ BK383 hg; replace BK383 := bb_ BK383 hb; replace HB := HB_; clear hb hg; have hnb23 := NB383_384.out; have hnc23 := NB384_383.out; obtain ⟨hcz24_0, hcz24_1, hcz24_2, hfz24_0, hfz24_1, hfz24_2⟩ := ch3_ BK383; obtain ⟨hcz25_0, hcz25_1, hcz25_2, hfz25_0, hfz25_1, hfz25_2⟩ := ch3_ BK384))
 go_ret
 exact ⟨es_, (bw_ HB).out⟩
/-! ### laws_eqFlow: function 35 -/
def laws_eqFlow.f (a0_0 a0_1 a0_2 a0_3 a1_0 a1_1 a1_2 a1_3 : Int) : Option (Bool) := (laws_eqBall.f a0_0 a0_1 a0_2 a1_0 a1_1 a1_2).bind fun t387 => (if t387 = true then (if a0_3 = a1_3 then (some true) else (some false)) else (some false))
theorem laws_eqFlow.calls (a0_0 a0_1 a0_2 a0_3 a1_0 a1_1 a1_2 a1_3 : Int) (r : Bool) (w : World) (h : laws_eqFlow.f a0_0 a0_1 a0_2 a0_3 a1_0 a1_1 a1_2 a1_3 = some r) :
  Calls Try.prog 35 #[.agg #[.int .i64 a0_0, .int .i64 a0_1, .int .i64 a0_2, .int .i64 a0_3], .agg #[.int .i64 a1_0, .int .i64 a1_1, .int .i64 a1_2, .int .i64 a1_3]] w fun e w' => e = .returned (.bool r) ∧ Below w.heap.size w w' := by
 have hu63 := Try.underlying63
 have hu31 := Try.underlying31
 have HB := Aside0.mk (Below.refl w.heap.size w)
 unfold laws_eqFlow.f at h
 have H := h
 clear h
 replace H := oc_ H
 obtain ⟨t387, A3, H⟩ := H
 replace H := ib_ H
 rcases H with ⟨rfl, H⟩ | ⟨rfl, H⟩
 ·replace H := ie_ H
  rcases H with ⟨c5b0, c5b1, H⟩ | ⟨c5, c5b0, c5b1, H⟩
  ·obtain rfl := si_ H
   go_enter Try.func35, Try.ntmps35
   go_wp2_with (first | ((refine gd_ 2 ?_); refine by_ 2 #[.int .i64 a0_0, .int .i64 a0_1, .int .i64 a0_2, .int .i64 a0_3] 63 HB ?_; intro gb385 hg w6 BK385 hb GW385 HB_; replace HB := HB_; clear hb hg) | ((refine gd_ 3 ?_); refine by_ 3 #[.int .i64 a1_0, .int .i64 a1_1, .int .i64 a1_2, .int .i64 a1_3] 63 HB ?_; intro gb386 hg w7 BK386 hb GW386 HB_; have NB385_386 := bm_ BK385 hg; have NB386_385 := bn_ BK385 hg; replace BK385 := bb_ BK385 hb; replace HB := HB_; clear hb hg; have hnb8 := NB385_386.out; have hnc8 := NB386_385.out; obtain ⟨hcz9_0, hcz9_1, hcz9_2, hcz9_3, hfz9_0, hfz9_1, hfz9_2, hfz9_3⟩ := ch4_ BK385; obtain ⟨hcz10_0, hcz10_1, hcz10_2, hcz10_3, hfz10_0, hfz10_1, hfz10_2, hfz10_3⟩ := ch4_ BK386) | ((refine gc_ 36 ?_); refine ge_ 9 Try.func36 #[.agg #[.int .i64 a0_0, .int .i64 a0_1, .int .i64 a0_2], .agg #[.int .i64 a1_0, .int .i64 a1_1, .int .i64 a1_2]] ?_; (with_reducible refine (laws_eqBall.calls a0_0 a0_1 a0_2 a1_0 a1_1 a1_2 true _ A3.out).mono ?_); rintro e w11 ⟨rfl, hb⟩; refine ⟨_, rfl, ?_⟩; replace BK385 := bb_ BK385 hb; replace BK386 := bb_ BK386 hb; replace HB := bt_ HB hb; (try clear hb); obtain ⟨hcz12_0, hcz12_1, hcz12_2, hcz12_3, hfz12_0, hfz12_1, hfz12_2, hfz12_3⟩ := ch4_ BK385; obtain ⟨hcz13_0, hcz13_1, hcz13_2, hcz13_3, hfz13_0, hfz13_1, hfz13_2, hfz13_3⟩ := ch4_ BK386))
   go_ret
   exact ⟨es_, (bw_ HB).out⟩
  obtain rfl := si_ H
  go_enter Try.func35, Try.ntmps35
  go_wp2_with (first | ((refine gd_ 2 ?_); refine by_ 2 #[.int .i64 a0_0, .int .i64 a0_1, .int .i64 a0_2, .int .i64 a0_3] 63 HB ?_; intro gb385 hg w14 BK385 hb GW385 HB_; replace HB := HB_; clear hb hg) | ((refine gd_ 3 ?_); refine by_ 3 #[.int .i64 a1_0, .int .i64 a1_1, .int .i64 a1_2, .int .i64 a1_3] 63 HB ?_; intro gb386 hg w15 BK386 hb GW386 HB_; have NB385_386 := bm_ BK385 hg; have NB386_385 := bn_ BK385 hg; replace BK385 := bb_ BK385 hb; replace HB := HB_; clear hb hg; have hnb16 := NB385_386.out; have hnc16 := NB386_385.out; obtain ⟨hcz17_0, hcz17_1, hcz17_2, hcz17_3, hfz17_0, hfz17_1, hfz17_2, hfz17_3⟩ := ch4_ BK385; obtain ⟨hcz18_0, hcz18_1, hcz18_2, hcz18_3, hfz18_0, hfz18_1, hfz18_2, hfz18_3⟩ := ch4_ BK386) | ((refine gc_ 36 ?_); refine ge_ 9 Try.func36 #[.agg #[.int .i64 a0_0, .int .i64 a0_1, .int .i64 a0_2], .agg #[.int .i64 a1_0, .int .i64 a1_1, .int .i64 a1_2]] ?_; (with_reducible refine (laws_eqBall.calls a0_0 a0_1 a0_2 a1_0 a1_1 a1_2 true _ A3.out).mono ?_); rintro e w19 ⟨rfl, hb⟩; refine ⟨_, rfl, ?_⟩; replace BK385 := bb_ BK385 hb; replace BK386 := bb_ BK386 hb; replace HB := bt_ HB hb; (try clear hb); obtain ⟨hcz20_0, hcz20_1, hcz20_2, hcz20_3, hfz20_0, hfz20_1, hfz20_2, hfz20_3⟩ := ch4_ BK385; obtain ⟨hcz21_0, hcz21_1, hcz21_2, hcz21_3, hfz21_0, hfz21_1, hfz21_2, hfz21_3⟩ := ch4_ BK386))
  go_ret
  exact ⟨es_, (bw_ HB).out⟩
 obtain rfl := si_ H
 go_enter Try.func35, Try.ntmps35
 go_wp2_with (first | ((refine gd_ 2 ?_); refine by_ 2 #[.int .i64 a0_0, .int .i64 a0_1, .int .i64 a0_2, .int .i64 a0_3] 63 HB ?_; intro gb385 hg w22 BK385 hb GW385 HB_; replace HB := HB_; clear hb hg) | ((refine gd_ 3 ?_); refine by_ 3 #[.int .i64 a1_0, .int .i64 a1_1, .int .i64 a1_2, .int .i64 a1_3] 63 HB ?_; intro gb386 hg w23 BK386 hb GW386 HB_; have NB385_386 := bm_ BK385 hg; have NB386_385 := bn_ BK385 hg; replace BK385 := bb_ BK385 hb; replace HB := HB_; clear hb hg; have hnb24 := NB385_386.out; have hnc24 := NB386_385.out; obtain ⟨hcz25_0, hcz25_1, hcz25_2, hcz25_3, hfz25_0, hfz25_1, hfz25_2, hfz25_3⟩ := ch4_ BK385; obtain ⟨hcz26_0, hcz26_1, hcz26_2, hcz26_3, hfz26_0, hfz26_1, hfz26_2, hfz26_3⟩ := ch4_ BK386) | ((refine gc_ 36 ?_); refine ge_ 9 Try.func36 #[.agg #[.int .i64 a0_0, .int .i64 a0_1, .int .i64 a0_2], .agg #[.int .i64 a1_0, .int .i64 a1_1, .int .i64 a1_2]] ?_; (with_reducible refine (laws_eqBall.calls a0_0 a0_1 a0_2 a1_0 a1_1 a1_2 false _ A3.out).mono ?_); rintro e w27 ⟨rfl, hb⟩; refine ⟨_, rfl, ?_⟩; replace BK385 := bb_ BK385 hb; replace BK386 := bb_ BK386 hb; replace HB := bt_ HB hb; (try clear hb)))
 go_ret
 exact ⟨es_, (bw_ HB).out⟩
/-! ### laws_eqFlowS: function 11 -/
def laws_eqFlowS.l0 : Nat → List (S63) → List (S63) → Int → Option (Bool)
 | 0, _, _, _ => none
 | k + 1, x0, x1, x5 => if x5 < (x0.length : Int) then (if 0 ≤ x5 then (if x5 < (x1.length : Int) then ((laws_eqFlow.f ((rd_T63 x0 x5).f0.f0) ((rd_T63 x0 x5).f0.f1) ((rd_T63 x0 x5).f0.f2) ((rd_T63 x0 x5).f1) ((rd_T63 x1 x5).f0.f0) ((rd_T63 x1 x5).f0.f1) ((rd_T63 x1 x5).f0.f2) ((rd_T63 x1 x5).f1)).bind fun t390 => (if t390 = true then (laws_eqFlowS.l0 k x0 x1 (wrap64 (x5 + 1))) else (some false))) else (none)) else (none)) else (some true)
def laws_eqFlowS.f (k : Nat) (l0 : List (S63)) (l1 : List (S63)) : Option (Bool) := if (l0.length : Int) = (l1.length : Int) then (laws_eqFlowS.l0 k l0 l1 0) else (some false)
def laws_eqFlowS.T6 : Bool × List (List Nat × List Nat) := (true, [([], []), ([], []), ([0, 1], [0, 1]), ([2], [2]), ([], []), ([], []), ([4, 5], [4, 5]), ([6], [6]), ([3, 7], [3, 7]), ([8], [8])])
def laws_eqFlowS.B6 : List Nat := [0, 0, 3, 7, 0, 0, 48, 112, 255, 511]
theorem laws_eqFlowS.tab6 : rtab .any (opsOf Try.f11 6) = laws_eqFlowS.T6 := by kernel_rfl
theorem laws_eqFlowS.bits6 : waitsOk laws_eqFlowS.T6.2 laws_eqFlowS.B6 = true := by kernel_rfl
theorem laws_eqFlowS.calls (k : Nat) (A0 : Option Addr) (c0 : Nat) (l0 : List (S63)) (A1 : Option Addr) (c1 : Nat) (l1 : List (S63)) (r : Bool) (w : World) (hr0 : Kd.C k63 w A0 l0.length l0) (hc0 : l0.length ≤ c0) (hr1 : Kd.C k63 w A1 l1.length l1) (hc1 : l1.length ≤ c1) (h : laws_eqFlowS.f k l0 l1 = some r) :
  Calls Try.prog 11 #[.slice A0 l0.length c0, .slice A1 l1.length c1] w fun e w' => e = .returned (.bool r) ∧ Below w.heap.size w w' := by
 have hu63 := Try.underlying63
 have HR0 := Aside0.mk hr0
 have HC0 := Aside0.mk hc0
 clear hr0 hc0
 have HR1 := Aside0.mk hr1
 have HC1 := Aside0.mk hc1
 clear hr1 hc1
 have HB := Aside0.mk (Below.refl w.heap.size w)
 unfold laws_eqFlowS.f at h
 have H := h
 clear h
 by_cases c3 : (l0.length : Int) = (l1.length : Int)
 ·rw [if_pos c3] at H
  have c3b0 : ((l0.length : Int) == (l1.length : Int)) = true := beq_iff_eq.mpr c3
  have c3b1 : ((l0.length : Int) != (l1.length : Int)) = false := bne_eq_false_iff_eq.mpr c3
  have c3b2 : (l0.length == l1.length) = true := by first | simpa using c3 | (simp at c3 ⊢; omega)
  clear c3
  have H' := Aside0.mk H
  clear H
  go_enter Try.func11, Try.ntmps11
  go_wp2
  go_loopg [5] k (fun kq v5 w' => ∃ (x5_1 : Int), v5 = .int .i64 x5_1 ∧ Aside0 (laws_eqFlowS.l0 kq l0 l1 x5_1 = some r) ∧ Aside0 (kq ≤ k) ∧ Aside0 (Below w.heap.size w w'))
  case atStart => exact ⟨(0), en_, H', ⟨Nat.le_refl _⟩, bw_ HB⟩
  clear H'
  try clear c1
  try clear c3
  try clear c3b0
  try clear c3b1
  try clear c3b2
  obtain ⟨x5_1, rfl, HA, HK1, HB⟩ := hrel
  cases gk with
  | zero => exact absurd HA.out (by simp [laws_eqFlowS.l0])
  | succ k1 =>
   have H := HA.out
   clear HA
   simp only [laws_eqFlowS.l0] at H
   replace H := il_ H
   rcases H with ⟨c4b0, H⟩ | ⟨c4b0, H⟩
   ·replace H := imn_ H
    obtain ⟨c5b0, H⟩ := H
    replace H := iln_ H
    obtain ⟨c6b0, H⟩ := H
    replace H := oc_ H
    obtain ⟨t390, A7, H⟩ := H
    replace H := ib_ H
    rcases H with ⟨rfl, H⟩ | ⟨rfl, H⟩
    ·have H' := Aside0.mk H
     clear H
     try go_wp2
     replace HB := be_ HB
     have p388 : 0 ≤ (x5_1 : Int) := od_
     have q388 : x5_1 < (l0.length : Int) := od_
     obtain ⟨ad388, e388, hx388_0, hx388_1, hx388_2, hx388_3⟩ := at_T63 HR0.out x5_1 p388 q388
     have hw388_3 := hx388_3
     have hw388_2 := hx388_2
     have hw388_1 := hx388_1
     have hw388_0 := hx388_0
     cases e388
     replace hx388_0 := clTr HB.out hx388_0
     replace hx388_1 := clTr HB.out hx388_1
     replace hx388_2 := clTr HB.out hx388_2
     replace hx388_3 := clTr HB.out hx388_3
     replace p388 := eq_true p388
     replace q388 := eq_true q388
     have p389 : 0 ≤ (x5_1 : Int) := od_
     have q389 : x5_1 < (l1.length : Int) := od_
     obtain ⟨ad389, e389, hx389_0, hx389_1, hx389_2, hx389_3⟩ := at_T63 HR1.out x5_1 p389 q389
     have hw389_3 := hx389_3
     have hw389_2 := hx389_2
     have hw389_1 := hx389_1
     have hw389_0 := hx389_0
     cases e389
     replace hx389_0 := clTr HB.out hx389_0
     replace hx389_1 := clTr HB.out hx389_1
     replace hx389_2 := clTr HB.out hx389_2
     replace hx389_3 := clTr HB.out hx389_3
     replace p389 := eq_true p389
     replace q389 := eq_true q389
     refine start_ (n := 10) (S := fun w' => w'.cell? (ad388.add ((x5_1).toNat * 4)) = some (.int .i64 ((rd_T63 l0 x5_1).f0.f0)) ∧ w'.cell? ⟨(ad388.add ((x5_1).toNat * 4)).block, (ad388.add ((x5_1).toNat * 4)).off + 1, none⟩ = some (.int .i64 ((rd_T63 l0 x5_1).f0.f1)) ∧ w'.cell? ⟨(ad388.add ((x5_1).toNat * 4)).block, (ad388.add ((x5_1).toNat * 4)).off + 2, none⟩ = some (.int .i64 ((rd_T63 l0 x5_1).f0.f2)) ∧ w'.cell? ⟨(ad388.add ((x5_1).toNat * 4)).block, (ad388.add ((x5_1).toNat * 4)).off + 3, none⟩ = some (.int .i64 ((rd_T63 l0 x5_1).f1)) ∧ w'.cell? (ad389.add ((x5_1).toNat * 4)) = some (.int .i64 ((rd_T63 l1 x5_1).f0.f0)) ∧ w'.cell? ⟨(ad389.add ((x5_1).toNat * 4)).block, (ad389.add ((x5_1).toNat * 4)).off + 1, none⟩ = some (.int .i64 ((rd_T63 l1 x5_1).f0.f1)) ∧ w'.cell? ⟨(ad389.add ((x5_1).toNat * 4)).block, (ad389.add ((x5_1).toNat * 4)).off + 2, none⟩ = some (.int .i64 ((rd_T63 l1 x5_1).f0.f2)) ∧ w'.cell? ⟨(ad389.add ((x5_1).toNat * 4)).block, (ad389.add ((x5_1).toNat * 4)).off + 3, none⟩ = some (.int .i64 ((rd_T63 l1 x5_1).f1))) (ds := []) (bv_ 10 0) (by kernel_rfl) rfl rfl ⟨(clTr HB.out hw388_0 :), (clTr HB.out hw388_1 :), (clTr HB.out hw388_2 :), (clTr HB.out hw388_3 :), (clTr HB.out hw389_0 :), (clTr HB.out hw389_1 :), (clTr HB.out hw389_2 :), (clTr HB.out hw389_3 :)⟩ (fun hHeld => ?_); refine with_tabW laws_eqFlowS.tab6 laws_eqFlowS.bits6 (fun HT_ HW_ => ?_)
     generalize wr.drew = w9 at HB hx388_0 hx388_1 hx388_2 hx388_3 hx389_0 hx389_1 hx389_2 hx389_3 hHeld ⊢
     refine px_ HT_ 0 17 1 ?_
     refine px_ HT_ 1 18 3 ?_
     refine px_ HT_ 2 19 7 ?_
     refine px_ HT_ 4 21 23 ?_
     refine px_ HT_ 5 22 55 ?_
     refine px_ HT_ 6 23 119 ?_
     refine ta_ HT_ HW_ 3 (some 20) (bv_ 10 127) hHeld ?_ (hy := by rintro w' ⟨s0, s1, s2, s3, s4, s5, s6, s7⟩; go_simp; with_reducible rfl)
     refine ta_ HT_ HW_ 7 (some 24) (bv_ 10 255) hHeld ?_ (hy := by rintro w' ⟨s0, s1, s2, s3, s4, s5, s6, s7⟩; go_simp; with_reducible rfl)
     refine on_ HT_ 8 (some 25) (bv_ 10 511) (fun K hK => ?_)
     refine gs_ Try.func35 #[.agg #[.int .i64 ((rd_T63 l0 x5_1).f0.f0), .int .i64 ((rd_T63 l0 x5_1).f0.f1), .int .i64 ((rd_T63 l0 x5_1).f0.f2), .int .i64 ((rd_T63 l0 x5_1).f1)], .agg #[.int .i64 ((rd_T63 l1 x5_1).f0.f0), .int .i64 ((rd_T63 l1 x5_1).f0.f1), .int .i64 ((rd_T63 l1 x5_1).f0.f2), .int .i64 ((rd_T63 l1 x5_1).f1)]] ?_
     with_reducible refine (laws_eqFlow.calls ((rd_T63 l0 x5_1).f0.f0) ((rd_T63 l0 x5_1).f0.f1) ((rd_T63 l0 x5_1).f0.f2) ((rd_T63 l0 x5_1).f1) ((rd_T63 l1 x5_1).f0.f0) ((rd_T63 l1 x5_1).f0.f1) ((rd_T63 l1 x5_1).f0.f2) ((rd_T63 l1 x5_1).f1) true _ A7.out).mono ?_
     rintro e w10 ⟨rfl, hb⟩
     refine ⟨_, rfl, ?_⟩
     replace HB := bt_ HB hb
     try clear hb
     refine hK.out _ _ ⟨(clTr HB.out hw388_0 :), (clTr HB.out hw388_1 :), (clTr HB.out hw388_2 :), (clTr HB.out hw388_3 :), (clTr HB.out hw389_0 :), (clTr HB.out hw389_1 :), (clTr HB.out hw389_2 :), (clTr HB.out hw389_3 :)⟩ (fun hHeld => ?_)
     clear hK K
     refine nm_ (some 25) ?_
     refine px_ HT_ 9 26 1023 ?_
     refine done_ (done_of HT_.out (by kernel_rfl)) ?_
     try go_wp2
     go_roundg k1
     case measure => have := HK1.out; omega
     case rel => exact ⟨(wrap64 (x5_1 + 1)), en_, H', ⟨by have := HK1.out; omega⟩, bw_ HB⟩
    obtain rfl := si_ H
    try go_wp2
    replace HB := be_ HB
    have p388 : 0 ≤ (x5_1 : Int) := od_
    have q388 : x5_1 < (l0.length : Int) := od_
    obtain ⟨ad388, e388, hx388_0, hx388_1, hx388_2, hx388_3⟩ := at_T63 HR0.out x5_1 p388 q388
    have hw388_3 := hx388_3
    have hw388_2 := hx388_2
    have hw388_1 := hx388_1
    have hw388_0 := hx388_0
    cases e388
    replace hx388_0 := clTr HB.out hx388_0
    replace hx388_1 := clTr HB.out hx388_1
    replace hx388_2 := clTr HB.out hx388_2
    replace hx388_3 := clTr HB.out hx388_3
    replace p388 := eq_true p388
    replace q388 := eq_true q388
    have p389 : 0 ≤ (x5_1 : Int) := od_
    have q389 : x5_1 < (l1.length : Int) := od_
    obtain ⟨ad389, e389, hx389_0, hx389_1, hx389_2, hx389_3⟩ := at_T63 HR1.out x5_1 p389 q389
    have hw389_3 := hx389_3
    have hw389_2 := hx389_2
    have hw389_1 := hx389_1
    have hw389_0 := hx389_0
    cases e389
    replace hx389_0 := clTr HB.out hx389_0
    replace hx389_1 := clTr HB.out hx389_1
    replace hx389_2 := clTr HB.out hx389_2
    replace hx389_3 := clTr HB.out hx389_3
    replace p389 := eq_true p389
    replace q389 := eq_true q389
    refine start_ (n := 10) (S := fun w' => w'.cell? (ad388.add ((x5_1).toNat * 4)) = some (.int .i64 ((rd_T63 l0 x5_1).f0.f0)) ∧ w'.cell? ⟨(ad388.add ((x5_1).toNat * 4)).block, (ad388.add ((x5_1).toNat * 4)).off + 1, none⟩ = some (.int .i64 ((rd_T63 l0 x5_1).f0.f1)) ∧ w'.cell? ⟨(ad388.add ((x5_1).toNat * 4)).block, (ad388.add ((x5_1).toNat * 4)).off + 2, none⟩ = some (.int .i64 ((rd_T63 l0 x5_1).f0.f2)) ∧ w'.cell? ⟨(ad388.add ((x5_1).toNat * 4)).block, (ad388.add ((x5_1).toNat * 4)).off + 3, none⟩ = some (.int .i64 ((rd_T63 l0 x5_1).f1)) ∧ w'.cell? (ad389.add ((x5_1).toNat * 4)) = some (.int .i64 ((rd_T63 l1 x5_1).f0.f0)) ∧ w'.cell? ⟨(ad389.add ((x5_1).toNat * 4)).block, (ad389.add ((x5_1).toNat * 4)).off + 1, none⟩ = some (.int .i64 ((rd_T63 l1 x5_1).f0.f1)) ∧ w'.cell? ⟨(ad389.add ((x5_1).toNat * 4)).block, (ad389.add ((x5_1).toNat * 4)).off + 2, none⟩ = some (.int .i64 ((rd_T63 l1 x5_1).f0.f2)) ∧ w'.cell? ⟨(ad389.add ((x5_1).toNat * 4)).block, (ad389.add ((x5_1).toNat * 4)).off + 3, none⟩ = some (.int .i64 ((rd_T63 l1 x5_1).f1))) (ds := []) (bv_ 10 0) (by kernel_rfl) rfl rfl ⟨(clTr HB.out hw388_0 :), (clTr HB.out hw388_1 :), (clTr HB.out hw388_2 :), (clTr HB.out hw388_3 :), (clTr HB.out hw389_0 :), (clTr HB.out hw389_1 :), (clTr HB.out hw389_2 :), (clTr HB.out hw389_3 :)⟩ (fun hHeld => ?_); refine with_tabW laws_eqFlowS.tab6 laws_eqFlowS.bits6 (fun HT_ HW_ => ?_)
    generalize wr.drew = w11 at HB hx388_0 hx388_1 hx388_2 hx388_3 hx389_0 hx389_1 hx389_2 hx389_3 hHeld ⊢
    refine px_ HT_ 0 17 1 ?_
    refine px_ HT_ 1 18 3 ?_
    refine px_ HT_ 2 19 7 ?_
    refine px_ HT_ 4 21 23 ?_
    refine px_ HT_ 5 22 55 ?_
    refine px_ HT_ 6 23 119 ?_
    refine ta_ HT_ HW_ 3 (some 20) (bv_ 10 127) hHeld ?_ (hy := by rintro w' ⟨s0, s1, s2, s3, s4, s5, s6, s7⟩; go_simp; with_reducible rfl)
    refine ta_ HT_ HW_ 7 (some 24) (bv_ 10 255) hHeld ?_ (hy := by rintro w' ⟨s0, s1, s2, s3, s4, s5, s6, s7⟩; go_simp; with_reducible rfl)
    refine on_ HT_ 8 (some 25) (bv_ 10 511) (fun K hK => ?_)
    refine gs_ Try.func35 #[.agg #[.int .i64 ((rd_T63 l0 x5_1).f0.f0), .int .i64 ((rd_T63 l0 x5_1).f0.f1), .int .i64 ((rd_T63 l0 x5_1).f0.f2), .int .i64 ((rd_T63 l0 x5_1).f1)], .agg #[.int .i64 ((rd_T63 l1 x5_1).f0.f0), .int .i64 ((rd_T63 l1 x5_1).f0.f1), .int .i64 ((rd_T63 l1 x5_1).f0.f2), .int .i64 ((rd_T63 l1 x5_1).f1)]] ?_
    with_reducible refine (laws_eqFlow.calls ((rd_T63 l0 x5_1).f0.f0) ((rd_T63 l0 x5_1).f0.f1) ((rd_T63 l0 x5_1).f0.f2) ((rd_T63 l0 x5_1).f1) ((rd_T63 l1 x5_1).f0.f0) ((rd_T63 l1 x5_1).f0.f1) ((rd_T63 l1 x5_1).f0.f2) ((rd_T63 l1 x5_1).f1) false _ A7.out).mono ?_
    rintro e w12 ⟨rfl, hb⟩
    refine ⟨_, rfl, ?_⟩
    replace HB := bt_ HB hb
    try clear hb
    refine hK.out _ _ ⟨(clTr HB.out hw388_0 :), (clTr HB.out hw388_1 :), (clTr HB.out hw388_2 :), (clTr HB.out hw388_3 :), (clTr HB.out hw389_0 :), (clTr HB.out hw389_1 :), (clTr HB.out hw389_2 :), (clTr HB.out hw389_3 :)⟩ (fun hHeld => ?_)
    clear hK K
    refine nm_ (some 25) ?_
    refine px_ HT_ 9 26 1023 ?_
    refine done_ (done_of HT_.out (by kernel_rfl)) ?_
    try go_wp2
    go_ret
    exact ⟨es_, (bw_ HB).out⟩
   obtain rfl := si_ H
   go_wp2
   go_ret
   exact ⟨es_, (bw_ HB).out⟩
 rw [if_neg c3] at H
 have c3b0 : ((l0.length : Int) == (l1.length : Int)) = false := beq_eq_false_iff_ne.mpr c3
 have c3b1 : ((l0.length : Int) != (l1.length : Int)) = true := bne_iff_ne.mpr c3
 have c3b2 : (l0.length == l1.length) = false := by first | simpa using c3 | (simp at c3 ⊢; omega)
 obtain rfl := si_ H
 go_enter Try.func11, Try.ntmps11
 go_wp2
 go_ret
 exact ⟨es_, (bw_ HB).out⟩
/-! ### laws_eqPiece: function 74 -/
def laws_eqPiece.f (a0_0 a0_1 a0_2 a0_3 a1_0 a1_1 a1_2 a1_3 : Int) : Option (Bool) := (laws_eqBall.f a0_0 a0_1 a0_2 a1_0 a1_1 a1_2).bind fun t393 => (if t393 = true then (if a0_3 = a1_3 then (some true) else (some false)) else (some false))
theorem laws_eqPiece.calls (a0_0 a0_1 a0_2 a0_3 a1_0 a1_1 a1_2 a1_3 : Int) (r : Bool) (w : World) (h : laws_eqPiece.f a0_0 a0_1 a0_2 a0_3 a1_0 a1_1 a1_2 a1_3 = some r) :
  Calls Try.prog 74 #[.agg #[.int .i64 a0_0, .int .i64 a0_1, .int .i64 a0_2, .int .i64 a0_3], .agg #[.int .i64 a1_0, .int .i64 a1_1, .int .i64 a1_2, .int .i64 a1_3]] w fun e w' => e = .returned (.bool r) ∧ Below w.heap.size w w' := by
 have hu72 := Try.underlying72
 have hu31 := Try.underlying31
 have HB := Aside0.mk (Below.refl w.heap.size w)
 unfold laws_eqPiece.f at h
 have H := h
 clear h
 replace H := oc_ H
 obtain ⟨t393, A3, H⟩ := H
 replace H := ib_ H
 rcases H with ⟨rfl, H⟩ | ⟨rfl, H⟩
 ·replace H := ie_ H
  rcases H with ⟨c5b0, c5b1, H⟩ | ⟨c5, c5b0, c5b1, H⟩
  ·obtain rfl := si_ H
   go_enter Try.func74, Try.ntmps74
   go_wp2_with (first | ((refine gd_ 2 ?_); refine by_ 2 #[.int .i64 a0_0, .int .i64 a0_1, .int .i64 a0_2, .int .i64 a0_3] 72 HB ?_; intro gb391 hg w6 BK391 hb GW391 HB_; replace HB := HB_; clear hb hg) | ((refine gd_ 3 ?_); refine by_ 3 #[.int .i64 a1_0, .int .i64 a1_1, .int .i64 a1_2, .int .i64 a1_3] 72 HB ?_; intro gb392 hg w7 BK392 hb GW392 HB_; have NB391_392 := bm_ BK391 hg; have NB392_391 := bn_ BK391 hg; replace BK391 := bb_ BK391 hb; replace HB := HB_; clear hb hg; have hnb8 := NB391_392.out; have hnc8 := NB392_391.out; obtain ⟨hcz9_0, hcz9_1, hcz9_2, hcz9_3, hfz9_0, hfz9_1, hfz9_2, hfz9_3⟩ := ch4_ BK391; obtain ⟨hcz10_0, hcz10_1, hcz10_2, hcz10_3, hfz10_0, hfz10_1, hfz10_2, hfz10_3⟩ := ch4_ BK392) | ((refine gc_ 36 ?_); refine ge_ 9 Try.func36 #[.agg #[.int .i64 a0_0, .int .i64 a0_1, .int .i64 a0_2], .agg #[.int .i64 a1_0, .int .i64 a1_1, .int .i64 a1_2]] ?_; (with_reducible refine (laws_eqBall.calls a0_0 a0_1 a0_2 a1_0 a1_1 a1_2 true _ A3.out).mono ?_); rintro e w11 ⟨rfl, hb⟩; refine ⟨_, rfl, ?_⟩; replace BK391 := bb_ BK391 hb; replace BK392 := bb_ BK392 hb; replace HB := bt_ HB hb; (try clear hb); obtain ⟨hcz12_0, hcz12_1, hcz12_2, hcz12_3, hfz12_0, hfz12_1, hfz12_2, hfz12_3⟩ := ch4_ BK391; obtain ⟨hcz13_0, hcz13_1, hcz13_2, hcz13_3, hfz13_0, hfz13_1, hfz13_2, hfz13_3⟩ := ch4_ BK392))
   go_ret
   exact ⟨es_, (bw_ HB).out⟩
  obtain rfl := si_ H
  go_enter Try.func74, Try.ntmps74
  go_wp2_with (first | ((refine gd_ 2 ?_); refine by_ 2 #[.int .i64 a0_0, .int .i64 a0_1, .int .i64 a0_2, .int .i64 a0_3] 72 HB ?_; intro gb391 hg w14 BK391 hb GW391 HB_; replace HB := HB_; clear hb hg) | ((refine gd_ 3 ?_); refine by_ 3 #[.int .i64 a1_0, .int .i64 a1_1, .int .i64 a1_2, .int .i64 a1_3] 72 HB ?_; intro gb392 hg w15 BK392 hb GW392 HB_; have NB391_392 := bm_ BK391 hg; have NB392_391 := bn_ BK391 hg; replace BK391 := bb_ BK391 hb; replace HB := HB_; clear hb hg; have hnb16 := NB391_392.out; have hnc16 := NB392_391.out; obtain ⟨hcz17_0, hcz17_1, hcz17_2, hcz17_3, hfz17_0, hfz17_1, hfz17_2, hfz17_3⟩ := ch4_ BK391; obtain ⟨hcz18_0, hcz18_1, hcz18_2, hcz18_3, hfz18_0, hfz18_1, hfz18_2, hfz18_3⟩ := ch4_ BK392) | ((refine gc_ 36 ?_); refine ge_ 9 Try.func36 #[.agg #[.int .i64 a0_0, .int .i64 a0_1, .int .i64 a0_2], .agg #[.int .i64 a1_0, .int .i64 a1_1, .int .i64 a1_2]] ?_; (with_reducible refine (laws_eqBall.calls a0_0 a0_1 a0_2 a1_0 a1_1 a1_2 true _ A3.out).mono ?_); rintro e w19 ⟨rfl, hb⟩; refine ⟨_, rfl, ?_⟩; replace BK391 := bb_ BK391 hb; replace BK392 := bb_ BK392 hb; replace HB := bt_ HB hb; (try clear hb); obtain ⟨hcz20_0, hcz20_1, hcz20_2, hcz20_3, hfz20_0, hfz20_1, hfz20_2, hfz20_3⟩ := ch4_ BK391; obtain ⟨hcz21_0, hcz21_1, hcz21_2, hcz21_3, hfz21_0, hfz21_1, hfz21_2, hfz21_3⟩ := ch4_ BK392))
  go_ret
  exact ⟨es_, (bw_ HB).out⟩
 obtain rfl := si_ H
 go_enter Try.func74, Try.ntmps74
 go_wp2_with (first | ((refine gd_ 2 ?_); refine by_ 2 #[.int .i64 a0_0, .int .i64 a0_1, .int .i64 a0_2, .int .i64 a0_3] 72 HB ?_; intro gb391 hg w22 BK391 hb GW391 HB_; replace HB := HB_; clear hb hg) | ((refine gd_ 3 ?_); refine by_ 3 #[.int .i64 a1_0, .int .i64 a1_1, .int .i64 a1_2, .int .i64 a1_3] 72 HB ?_; intro gb392 hg w23 BK392 hb GW392 HB_; have NB391_392 := bm_ BK391 hg; have NB392_391 := bn_ BK391 hg; replace BK391 := bb_ BK391 hb; replace HB := HB_; clear hb hg; have hnb24 := NB391_392.out; have hnc24 := NB392_391.out; obtain ⟨hcz25_0, hcz25_1, hcz25_2, hcz25_3, hfz25_0, hfz25_1, hfz25_2, hfz25_3⟩ := ch4_ BK391; obtain ⟨hcz26_0, hcz26_1, hcz26_2, hcz26_3, hfz26_0, hfz26_1, hfz26_2, hfz26_3⟩ := ch4_ BK392) | ((refine gc_ 36 ?_); refine ge_ 9 Try.func36 #[.agg #[.int .i64 a0_0, .int .i64 a0_1, .int .i64 a0_2], .agg #[.int .i64 a1_0, .int .i64 a1_1, .int .i64 a1_2]] ?_; (with_reducible refine (laws_eqBall.calls a0_0 a0_1 a0_2 a1_0 a1_1 a1_2 false _ A3.out).mono ?_); rintro e w27 ⟨rfl, hb⟩; refine ⟨_, rfl, ?_⟩; replace BK391 := bb_ BK391 hb; replace BK392 := bb_ BK392 hb; replace HB := bt_ HB hb; (try clear hb)))
 go_ret
 exact ⟨es_, (bw_ HB).out⟩
end Go.Proofs.Ytdfcoebadjhjlaa.QF
