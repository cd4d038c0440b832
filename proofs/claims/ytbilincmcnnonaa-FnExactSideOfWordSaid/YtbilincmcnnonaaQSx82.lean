import Derived.Test.YtbilincmcnnonaaQSx8
import Derived.Test.YtbilincmcnnonaaQSx30
import Derived.Test.YtbilincmcnnonaaQSx35
import Derived.Test.YtbilincmcnnonaaQSx42
import Derived.Test.YtbilincmcnnonaaQSx74
import Derived.Test.YtbilincmcnnonaaQSx78
import Derived.Test.YtbilincmcnnonaaQSx81
namespace Go.Proofs.Ytbilincmcnnonaa.QS
open Go.RowKit Go.Proofs.YtbilincmcnnonaaW.PrintWords Go.Proofs.YtbilincmcnnonaaW.PrintLast Go.Proofs.YtbilincmcnnonaaW.PrintMore
attribute [local go_sem] isSome_setCell max2_int min2_int max_two min_two max_three min_three max_four min_four
set_option linter.unusedVariables false
set_option linter.unusedSimpArgs false

/-! ### laws_FnExactSideOfWord: function 5 -/
def laws_FnExactSideOfWord.f (k : Nat) (a0 : Int) (l1 : List (S25)) (l2 : List (S135)) (l3 : List Int) : Option (Bool) := if (l3.length : Int) > 1048576 then (some true) else ((laws_szMatrixS.f l1 1048576).bind fun t487 => (if t487 < 0 then (some true) else ((laws_szSideS.f l2 t487).bind fun t488 => (if t488 < 0 then (some true) else ((laws_toMatrixS.f k l1).bind fun t489 => ((laws_toSideS.f k l2).bind fun t492 => ((laws_toInt64S.f k l3).bind fun t495 => ((spec_SideOfWord.f k a0 t489 t492 t495).bind fun bt498 => ((laws_toMatrixS.f k l1).bind fun t504 => ((laws_toSideS.f k l2).bind fun t507 => ((laws_toInt64S.f k l3).bind fun t510 => ((impl_SideOfWord.f k a0 t504 t507 t510).bind fun bt513 => ((laws_eqSide.f bt513.1 bt513.2.1 bt513.2.2.1 bt513.2.2.2.1 bt498.1 bt498.2.1 bt498.2.2.1 bt498.2.2.2.1).bind fun t519 => (if t519 = true then (if bt513.2.2.2.2 = bt498.2.2.2.2 then ((laws_toMatrixS.f k l1).bind fun t520 => ((laws_eqMatrixS.f k t504 t520).bind fun t523 => (if t523 = true then ((laws_toSideS.f k l2).bind fun t524 => ((laws_eqSideS.f k t507 t524).bind fun t527 => (if t527 = true then ((laws_toInt64S.f k l3).bind fun t528 => ((laws_eqInt64S.f k t510 t528).bind fun t531 => (if t531 = true then (some true) else (none)))) else (none)))) else (none)))) else (none)) else (none)))))))))))))))
set_option maxHeartbeats 8000000 in
set_option maxRecDepth 100000 in
theorem laws_FnExactSideOfWord.calls (k : Nat) (a0 : Int) (A1 : Option Addr) (c1 : Nat) (l1 : List (S25)) (A2 : Option Addr) (c2 : Nat) (l2 : List (S135)) (A3 : Option Addr) (c3 : Nat) (l3 : List Int) (r : Bool) (w : World) (hr1 : Kd.C k25 w A1 l1.length l1) (hc1 : l1.length ≤ c1) (hr2 : Kd.C k135 w A2 l2.length l2) (hc2 : l2.length ≤ c2) (hr3 : Kd.C (Kd.int .i64) w A3 l3.length l3) (hc3 : l3.length ≤ c3) (h : laws_FnExactSideOfWord.f k a0 l1 l2 l3 = some r) :
  Calls Try.prog 5 #[.int .i64 a0, .slice A1 l1.length c1, .slice A2 l2.length c2, .slice A3 l3.length c3] w fun e w' => e = .returned (.bool r) ∧ Below w.heap.size w w' := by
 have hu59 := Try.underlying59
 have HR1 := Aside0.mk hr1
 have HC1 := Aside0.mk hc1
 clear hr1 hc1
 have HR2 := Aside0.mk hr2
 have HC2 := Aside0.mk hc2
 clear hr2 hc2
 have HR3 := Aside0.mk hr3
 have HC3 := Aside0.mk hc3
 clear hr3 hc3
 have HB := Aside0.mk (Below.refl w.heap.size w)
 have H : (if (l3.length : Int) > 1048576 then (some true) else ((laws_szMatrixS.f l1 1048576).bind fun t487 => (if t487 < 0 then (some true) else ((laws_szSideS.f l2 t487).bind fun t488 => (if t488 < 0 then (some true) else ((laws_toMatrixS.f k l1).bind fun t489 => ((laws_toSideS.f k l2).bind fun t492 => ((laws_toInt64S.f k l3).bind fun t495 => ((spec_SideOfWord.f k a0 t489 t492 t495).bind fun bt498 => ((laws_toMatrixS.f k l1).bind fun t504 => ((laws_toSideS.f k l2).bind fun t507 => ((laws_toInt64S.f k l3).bind fun t510 => ((impl_SideOfWord.f k a0 t504 t507 t510).bind fun bt513 => ((laws_eqSide.f bt513.1 bt513.2.1 bt513.2.2.1 bt513.2.2.2.1 bt498.1 bt498.2.1 bt498.2.2.1 bt498.2.2.2.1).bind fun t519 => (if t519 = true then (if bt513.2.2.2.2 = bt498.2.2.2.2 then ((laws_toMatrixS.f k l1).bind fun t520 => ((laws_eqMatrixS.f k t504 t520).bind fun t523 => (if t523 = true then ((laws_toSideS.f k l2).bind fun t524 => ((laws_eqSideS.f k t507 t524).bind fun t527 => (if t527 = true then ((laws_toInt64S.f k l3).bind fun t528 => ((laws_eqInt64S.f k t510 t528).bind fun t531 => (if t531 = true then (some true) else (none)))) else (none)))) else (none)))) else (none)) else (none)))))))))))))))) = some r := h
 clear h
 by_cases c5 : (l3.length : Int) > 1048576
 ·rw [if_pos c5] at H
  have c5b0 : decide (1048576 < (l3.length : Int)) = true := decide_eq_true c5
  have c5b1 : decide (1048576 < l3.length) = true := decide_eq_true (by omega)
  clear c5
  obtain rfl := si_ H
  go_enter Try.func5, Try.ntmps5
  go_wp2
  go_ret
  exact ⟨es_, (bw_ HB).out⟩
 ·rw [if_neg c5] at H
  have c5b0 : decide (1048576 < (l3.length : Int)) = false := decide_eq_false c5
  have c5b1 : decide (1048576 < l3.length) = false := decide_eq_false (by omega)
  clear c5
  replace H := ob_ H
  obtain ⟨t487, A60, H⟩ := H
  have A6 := Aside0.mk A60
  clear A60
  by_cases c7 : t487 < 0
  ·rw [if_pos c7] at H
   have c7b0 : decide (t487 < 0) = true := decide_eq_true c7
   clear c7
   obtain rfl := si_ H
   go_enter Try.func5, Try.ntmps5
   go_wp2_with (first | (refine ge_ 22 Try.func43 #[.slice A1 l1.length c1, .int .i64 1048576] ?_; (with_reducible refine (laws_szMatrixS.calls _ _ l1 1048576 t487 _ ?side1 ?side2 A6.out).mono ?_); (case side1 => exact ca_ HR1.out); (case side2 => exact HC1.out); rintro e w' ⟨rfl, ⟨nd, rfl⟩⟩; refine ⟨_, rfl, ?_⟩))
   go_ret
   exact ⟨es_, (bw_ HB).out⟩
  ·rw [if_neg c7] at H
   have c7b0 : decide (t487 < 0) = false := decide_eq_false c7
   clear c7
   replace H := ob_ H
   obtain ⟨t488, A80, H⟩ := H
   have A8 := Aside0.mk A80
   clear A80
   by_cases c9 : t488 < 0
   ·rw [if_pos c9] at H
    have c9b0 : decide (t488 < 0) = true := decide_eq_true c9
    clear c9
    obtain rfl := si_ H
    go_enter Try.func5, Try.ntmps5
    go_wp2_with (first | (refine ge_ 22 Try.func43 #[.slice A1 l1.length c1, .int .i64 1048576] ?_; (with_reducible refine (laws_szMatrixS.calls _ _ l1 1048576 t487 _ ?side1 ?side2 A6.out).mono ?_); (case side1 => exact ca_ HR1.out); (case side2 => exact HC1.out); rintro e w' ⟨rfl, ⟨nd, rfl⟩⟩; refine ⟨_, rfl, ?_⟩) | (refine ge_ 27 Try.func44 #[.slice A2 l2.length c2, .int .i64 t487] ?_; (with_reducible refine (laws_szSideS.calls _ _ l2 t487 t488 _ ?side1 ?side2 A8.out).mono ?_); (case side1 => exact ca_ HR2.out); (case side2 => exact HC2.out); rintro e w' ⟨rfl, ⟨nd, rfl⟩⟩; refine ⟨_, rfl, ?_⟩))
    go_ret
    exact ⟨es_, (bw_ HB).out⟩
   ·rw [if_neg c9] at H
    have c9b0 : decide (t488 < 0) = false := decide_eq_false c9
    clear c9
    replace H := ob_ H
    obtain ⟨t489, A100, H⟩ := H
    have A10 := Aside0.mk A100
    clear A100
    replace H := ob_ H
    obtain ⟨t492, A110, H⟩ := H
    have A11 := Aside0.mk A110
    clear A110
    replace H := ob_ H
    obtain ⟨t495, A120, H⟩ := H
    have A12 := Aside0.mk A120
    clear A120
    replace H := ob_ H
    obtain ⟨⟨t498, t499, t500, t501, t502⟩, A130, H⟩ := H
    have A13 := Aside0.mk A130
    clear A130
    replace H := ob_ H
    obtain ⟨t504, A140, H⟩ := H
    have A14 := Aside0.mk A140
    clear A140
    replace H := ob_ H
    obtain ⟨t507, A150, H⟩ := H
    have A15 := Aside0.mk A150
    clear A150
    replace H := ob_ H
    obtain ⟨t510, A160, H⟩ := H
    have A16 := Aside0.mk A160
    clear A160
    replace H := ob_ H
    obtain ⟨⟨t513, t514, t515, t516, t517⟩, A170, H⟩ := H
    have A17 := Aside0.mk A170
    clear A170
    replace H := ob_ H
    obtain ⟨t519, A180, H⟩ := H
    have A18 := Aside0.mk A180
    clear A180
    by_cases c19 : t519 = true
    ·subst c19
     have H1 : (if t517 = t502 then ((laws_toMatrixS.f k l1).bind fun t520 => ((laws_eqMatrixS.f k t504 t520).bind fun t523 => (if t523 = true then ((laws_toSideS.f k l2).bind fun t524 => ((laws_eqSideS.f k t507 t524).bind fun t527 => (if t527 = true then ((laws_toInt64S.f k l3).bind fun t528 => ((laws_eqInt64S.f k t510 t528).bind fun t531 => (if t531 = true then (some true) else (none)))) else (none)))) else (none)))) else (none)) = some r := by rw [if_pos rfl] at H; exact H
     clear H
     have H := H1
     clear H1
     by_cases c20 : t517 = t502
     ·rw [if_pos c20] at H
      have c20b0 : (t517 == t502) = true := beq_iff_eq.mpr c20
      have c20b1 : (t517 != t502) = false := bne_eq_false_iff_eq.mpr c20
      clear c20
      replace H := ob_ H
      obtain ⟨t520, A210, H⟩ := H
      have A21 := Aside0.mk A210
      clear A210
      replace H := ob_ H
      obtain ⟨t523, A220, H⟩ := H
      have A22 := Aside0.mk A220
      clear A220
      by_cases c23 : t523 = true
      ·subst c23
       have H1 : ((laws_toSideS.f k l2).bind fun t524 => ((laws_eqSideS.f k t507 t524).bind fun t527 => (if t527 = true then ((laws_toInt64S.f k l3).bind fun t528 => ((laws_eqInt64S.f k t510 t528).bind fun t531 => (if t531 = true then (some true) else (none)))) else (none)))) = some r := by rw [if_pos rfl] at H; exact H
       clear H
       have H := H1
       clear H1
       replace H := ob_ H
       obtain ⟨t524, A240, H⟩ := H
       have A24 := Aside0.mk A240
       clear A240
       replace H := ob_ H
       obtain ⟨t527, A250, H⟩ := H
       have A25 := Aside0.mk A250
       clear A250
       by_cases c26 : t527 = true
       ·subst c26
        have H1 : ((laws_toInt64S.f k l3).bind fun t528 => ((laws_eqInt64S.f k t510 t528).bind fun t531 => (if t531 = true then (some true) else (none)))) = some r := by rw [if_pos rfl] at H; exact H
        clear H
        have H := H1
        clear H1
        replace H := ob_ H
        obtain ⟨t528, A270, H⟩ := H
        have A27 := Aside0.mk A270
        clear A270
        replace H := ob_ H
        obtain ⟨t531, A280, H⟩ := H
        have A28 := Aside0.mk A280
        clear A280
        by_cases c29 : t531 = true
        ·subst c29
         have H1 : (some true) = some r := by rw [if_pos rfl] at H; exact H
         clear H
         have H := H1
         clear H1
         obtain rfl := si_ H
         go_enter Try.func5, Try.ntmps5
         go_wp2_with (first | (refine ge_ 22 Try.func43 #[.slice A1 l1.length c1, .int .i64 1048576] ?_; (with_reducible refine (laws_szMatrixS.calls _ _ l1 1048576 t487 _ ?side1 ?side2 A6.out).mono ?_); (case side1 => exact ca_ HR1.out); (case side2 => exact HC1.out); rintro e w' ⟨rfl, ⟨nd, rfl⟩⟩; refine ⟨_, rfl, ?_⟩) | (refine ge_ 27 Try.func44 #[.slice A2 l2.length c2, .int .i64 t487] ?_; (with_reducible refine (laws_szSideS.calls _ _ l2 t487 t488 _ ?side1 ?side2 A8.out).mono ?_); (case side1 => exact ca_ HR2.out); (case side2 => exact HC2.out); rintro e w' ⟨rfl, ⟨nd, rfl⟩⟩; refine ⟨_, rfl, ?_⟩) | (refine ge_ 33 Try.func46 #[.slice A1 l1.length c1] ?_; (with_reducible refine (laws_toMatrixS.calls k _ _ l1 t489 _ ?side1 ?side2 A10.out).mono ?_); (case side1 => exact ca_ HR1.out); (case side2 => exact HC1.out); rintro e w30 ⟨v490, rfl, ho0, hb⟩; refine ⟨_, rfl, ?_⟩; have HO491 := Aside0.mk (Kd.R_lower ho0 (below_size (bw_ HB).out)); replace HB := bt_ HB hb; (try clear hb); (try clear hb2); (try clear hk); (try clear hi); (try clear ho0)) | (refine ge_ 35 Try.func47 #[.slice A2 l2.length c2] ?_; (with_reducible refine (laws_toSideS.calls k _ _ l2 t492 _ ?side1 ?side2 A11.out).mono ?_); (case side1 => exact ca_ (Kd.C_below HR2.out HB.out)); (case side2 => exact HC2.out); rintro e w31 ⟨v493, rfl, ho0, hb⟩; refine ⟨_, rfl, ?_⟩; have HO494 := Aside0.mk (Kd.R_lower ho0 (below_size (bw_ HB).out)); replace HO491 := Aside0.mk (Kd.R_below (ra_ HO491.out) hb); replace HB := bt_ HB hb; (try clear hb); (try clear hb2); (try clear hk); (try clear hi); (try clear ho0)) | (refine ge_ 37 Try.func48 #[.slice A3 l3.length c3] ?_; (with_reducible refine (laws_toInt64S.calls k _ _ l3 t495 _ ?side1 ?side2 A12.out).mono ?_); (case side1 => exact ca_ (Kd.C_below HR3.out HB.out)); (case side2 => exact HC3.out); rintro e w32 ⟨v496, rfl, ho0, hb⟩; refine ⟨_, rfl, ?_⟩; have HO497 := Aside0.mk (Kd.R_lower ho0 (below_size (bw_ HB).out)); replace HO491 := Aside0.mk (Kd.R_below (ra_ HO491.out) hb); replace HO494 := Aside0.mk (Kd.R_below (ra_ HO494.out) hb); replace HB := bt_ HB hb; (try clear hb); (try clear hb2); (try clear hk); (try clear hi); (try clear ho0); obtain ⟨Ao33, co33, eo33⟩ := Kd.R_slice HO491.out; subst eo33; obtain ⟨Ao34, co34, eo34⟩ := Kd.R_slice HO494.out; subst eo34; obtain ⟨Ao35, co35, eo35⟩ := Kd.R_slice HO497.out; subst eo35) | (refine ge_ 38 Try.func45 #[.int .i64 a0, .slice Ao33 t489.length co33, .slice Ao34 t492.length co34, .slice Ao35 t495.length co35] ?_; (with_reducible refine (spec_SideOfWord.calls k a0 _ _ t489 _ _ t492 _ _ t495 t498 t499 t500 t501 t502 _ ?side1 ?side2 ?side3 ?side4 ?side5 ?side6 A13.out).mono ?_); (case side1 => exact ca_ (Kd.R_reads' HO491.out).2.2); (case side2 => exact (Kd.R_reads' HO491.out).2.1); (case side3 => exact ca_ (Kd.R_reads' HO494.out).2.2); (case side4 => exact (Kd.R_reads' HO494.out).2.1); (case side5 => exact ca_ (Kd.R_reads' HO497.out).2.2); (case side6 => exact (Kd.R_reads' HO497.out).2.1); rintro e w36 ⟨rfl, hb⟩; refine ⟨_, rfl, ?_⟩; replace HO491 := Aside0.mk (Kd.R_below (ra_ HO491.out) hb); replace HO494 := Aside0.mk (Kd.R_below (ra_ HO494.out) hb); replace HO497 := Aside0.mk (Kd.R_below (ra_ HO497.out) hb); replace HB := bt_ HB hb; (try clear hb); (try clear hb2); (try clear hk); (try clear hi)) | (refine bx_ 10 #[.int .i64 0, .int .i64 0, .int .i64 0, .bool false] 59 ?_; intro gb503 hg w37 hbox hb; have BK503 := Aside0.mk (hbox); have GW503 := bs_ HB hg; have GE503 := bs_ HB hg; replace HO491 := Aside0.mk (Kd.R_below (ra_ HO491.out) hb); replace HO494 := Aside0.mk (Kd.R_below (Kd.R_elderB (ra_ HO494.out) gb503 (Nat.le_of_eq hg.symm)) hb); replace HO497 := Aside0.mk (Kd.R_below (ra_ HO497.out) hb); replace HB := bt_ HB hb; clear hb hbox hg; obtain ⟨hcz38_0, hcz38_1, hcz38_2, hcz38_3, hfz38_0, hfz38_1, hfz38_2, hfz38_3⟩ := ch4_ BK503) | (refine ge_ 42 Try.func46 #[.slice A1 l1.length c1] ?_; (with_reducible refine (laws_toMatrixS.calls k _ _ l1 t504 _ ?side1 ?side2 A14.out).mono ?_); (case side1 => exact Kd.C_below HR1.out (bw_ HB).out); (case side2 => exact HC1.out); rintro e w39 ⟨v505, rfl, ho0, hb⟩; refine ⟨_, rfl, ?_⟩; have HO506 := Aside0.mk (Kd.R_lower (Kd.R_new' ho0 (Kd.R_lt (ra_ (rs4_ HO491.out BK503.out)))) (below_size (bw_ HB).out)); replace HO491 := Aside0.mk (Kd.R_elder' (ra_ (rs4_ HO491.out BK503.out)) (Kd.R_base ho0) hb); replace HO494 := Aside0.mk (Kd.R_below (ra_ (Kd.R_mono (Kd.R_far (p := ⟨gb503, 3, none⟩) (Kd.R_far (p := ⟨gb503, 2, none⟩) (Kd.R_far (p := ⟨gb503, 1, none⟩) (Kd.R_far (p := ⟨gb503, 0, none⟩) (Kd.R_mono HO494.out (fun k_ hk => (⟨hk, hk.2⟩ : _ ∧ k_ ≠ gb503))) (fun _ hk => hk.2) (.int .i64 t498)) (fun _ hk => hk.2) (.int .i64 t499)) (fun _ hk => hk.2) (.int .i64 t500)) (fun _ hk => hk.2) (.bool t501)) (fun _ h_ => h_.1))) hb); replace HO497 := Aside0.mk (Kd.R_below (ra_ (rs4_ HO497.out BK503.out)) hb); replace BK503 := Aside0.mk (blk_below (g := gb503) (o := .cells #[.int .i64 t498, .int .i64 t499, .int .i64 t500, .bool t501] 59 (0, 0)) (bp_ BK503).out hb); replace HB := bt_ HB hb; (try clear hb); (try clear hb2); (try clear hk); (try clear hi); (try clear ho0)) | (refine ge_ 44 Try.func47 #[.slice A2 l2.length c2] ?_; (with_reducible refine (laws_toSideS.calls k _ _ l2 t507 _ ?side1 ?side2 A15.out).mono ?_); (case side1 => exact ca_ (Kd.C_below HR2.out HB.out)); (case side2 => exact HC2.out); rintro e w40 ⟨v508, rfl, ho0, hb⟩; refine ⟨_, rfl, ?_⟩; have HO509 := Aside0.mk (Kd.R_lower (Kd.R_newB (Kd.R_new' ho0 (Kd.R_lt (ra_ HO494.out))) (g := gb503) (o := .cells #[.int .i64 t498, .int .i64 t499, .int .i64 t500, .bool t501] 59 (0, 0)) (bl_ BK503).out) (below_size (bw_ HB).out)); replace HO491 := Aside0.mk (Kd.R_below (ra_ HO491.out) hb); replace HO494 := Aside0.mk (Kd.R_elder' (ra_ HO494.out) (Kd.R_base ho0) hb); replace HO497 := Aside0.mk (Kd.R_below (ra_ HO497.out) hb); replace HO506 := Aside0.mk (Kd.R_below (ra_ HO506.out) hb); replace BK503 := bb_ BK503 hb; replace HB := bt_ HB hb; (try clear hb); (try clear hb2); (try clear hk); (try clear hi); (try clear ho0)) | (refine ge_ 46 Try.func48 #[.slice A3 l3.length c3] ?_; (with_reducible refine (laws_toInt64S.calls k _ _ l3 t510 _ ?side1 ?side2 A16.out).mono ?_); (case side1 => exact ca_ (Kd.C_below HR3.out HB.out)); (case side2 => exact HC3.out); rintro e w41 ⟨v511, rfl, ho0, hb⟩; refine ⟨_, rfl, ?_⟩; have HO512 := Aside0.mk (Kd.R_lower (Kd.R_new' ho0 (Kd.R_lt (ra_ HO497.out))) (below_size (bw_ HB).out)); replace HO491 := Aside0.mk (Kd.R_below (ra_ HO491.out) hb); replace HO494 := Aside0.mk (Kd.R_below (ra_ HO494.out) hb); replace HO497 := Aside0.mk (Kd.R_elder' (ra_ HO497.out) (Kd.R_base ho0) hb); replace HO506 := Aside0.mk (Kd.R_below (ra_ HO506.out) hb); replace HO509 := Aside0.mk (Kd.R_below (ra_ HO509.out) hb); replace BK503 := bb_ BK503 hb; replace HB := bt_ HB hb; (try clear hb); (try clear hb2); (try clear hk); (try clear hi); (try clear ho0); obtain ⟨Ao42, co42, eo42⟩ := Kd.R_slice HO506.out; subst eo42; obtain ⟨Ao43, co43, eo43⟩ := Kd.R_slice HO509.out; subst eo43; obtain ⟨Ao44, co44, eo44⟩ := Kd.R_slice HO512.out; subst eo44) | (refine ge_ 52 Try.func49 #[.int .i64 a0, .slice Ao42 t504.length co42, .slice Ao43 t507.length co43, .slice Ao44 t510.length co44] ?_; (with_reducible refine (impl_SideOfWord.calls k a0 _ _ t504 _ _ t507 _ _ t510 t513 t514 t515 t516 t517 _ ?side1 ?side2 ?side3 ?side4 ?side5 ?side6 A17.out).mono ?_); (case side1 => exact ca_ (Kd.R_reads' HO506.out).2.2); (case side2 => exact (Kd.R_reads' HO506.out).2.1); (case side3 => exact ca_ (Kd.R_reads' HO509.out).2.2); (case side4 => exact (Kd.R_reads' HO509.out).2.1); (case side5 => exact ca_ (Kd.R_reads' HO512.out).2.2); (case side6 => exact (Kd.R_reads' HO512.out).2.1); rintro e w45 ⟨rfl, hb⟩; refine ⟨_, rfl, ?_⟩; replace HO491 := Aside0.mk (Kd.R_below (ra_ HO491.out) hb); replace HO494 := Aside0.mk (Kd.R_below (ra_ HO494.out) hb); replace HO497 := Aside0.mk (Kd.R_below (ra_ HO497.out) hb); replace HO506 := Aside0.mk (Kd.R_below (ra_ HO506.out) hb); replace HO509 := Aside0.mk (Kd.R_below (ra_ HO509.out) hb); replace HO512 := Aside0.mk (Kd.R_below (ra_ HO512.out) hb); replace BK503 := bb_ BK503 hb; replace HB := bt_ HB hb; (try clear hb); (try clear hb2); (try clear hk); (try clear hi)) | (refine bx_ 15 #[.int .i64 0, .int .i64 0, .int .i64 0, .bool false] 59 ?_; intro gb518 hg w46 hbox hb; have BK518 := Aside0.mk (hbox); have GW518 := bs_ HB hg; have GE518 := bs_ HB hg; have NB503_518 := bm_ BK503 hg; have NB518_503 := bn_ BK503 hg; replace HO491 := Aside0.mk (Kd.R_below (ra_ HO491.out) hb); replace HO494 := Aside0.mk (Kd.R_below (Kd.R_elderB (ra_ HO494.out) gb518 (Nat.le_of_eq hg.symm)) hb); replace HO497 := Aside0.mk (Kd.R_below (ra_ HO497.out) hb); replace HO506 := Aside0.mk (Kd.R_below (ra_ HO506.out) hb); replace HO509 := Aside0.mk (Kd.R_below (Kd.R_elderB (ra_ HO509.out) gb518 (Nat.le_of_eq hg.symm)) hb); replace HO512 := Aside0.mk (Kd.R_below (ra_ HO512.out) hb); replace BK503 := bb_ BK503 hb; replace HB := bt_ HB hb; clear hb hbox hg; have hnb47 := NB518_503.out; have hnc47 := NB503_518.out; obtain ⟨hcz48_0, hcz48_1, hcz48_2, hcz48_3, hfz48_0, hfz48_1, hfz48_2, hfz48_3⟩ := ch4_ BK518; obtain ⟨hcz49_0, hcz49_1, hcz49_2, hcz49_3, hfz49_0, hfz49_1, hfz49_2, hfz49_3⟩ := ch4_ BK503) | (refine ge_ 57 Try.func50 #[.agg #[.int .i64 t513, .int .i64 t514, .int .i64 t515, .bool t516], .agg #[.int .i64 t498, .int .i64 t499, .int .i64 t500, .bool t501]] ?_; (with_reducible refine (laws_eqSide.calls t513 t514 t515 t516 t498 t499 t500 t501 true _ A18.out).mono ?_); rintro e w50 ⟨rfl, hb⟩; refine ⟨_, rfl, ?_⟩; replace HO491 := Aside0.mk (Kd.R_below (ra_ (rs4_ HO491.out BK518.out)) hb); replace HO494 := Aside0.mk (Kd.R_below (ra_ (Kd.R_mono (Kd.R_far (p := ⟨gb518, 3, none⟩) (Kd.R_far (p := ⟨gb518, 2, none⟩) (Kd.R_far (p := ⟨gb518, 1, none⟩) (Kd.R_far (p := ⟨gb518, 0, none⟩) (Kd.R_mono HO494.out (fun k_ hk => (⟨hk, hk.2⟩ : _ ∧ k_ ≠ gb518))) (fun _ hk => hk.2) (.int .i64 t513)) (fun _ hk => hk.2) (.int .i64 t514)) (fun _ hk => hk.2) (.int .i64 t515)) (fun _ hk => hk.2) (.bool t516)) (fun _ h_ => h_.1))) hb); replace HO497 := Aside0.mk (Kd.R_below (ra_ (rs4_ HO497.out BK518.out)) hb); replace HO506 := Aside0.mk (Kd.R_below (ra_ (rs4_ HO506.out BK518.out)) hb); replace HO509 := Aside0.mk (Kd.R_below (ra_ (Kd.R_mono (Kd.R_far (p := ⟨gb518, 3, none⟩) (Kd.R_far (p := ⟨gb518, 2, none⟩) (Kd.R_far (p := ⟨gb518, 1, none⟩) (Kd.R_far (p := ⟨gb518, 0, none⟩) (Kd.R_mono HO509.out (fun k_ hk => (⟨hk, hk.2⟩ : _ ∧ k_ ≠ gb518))) (fun _ hk => hk.2) (.int .i64 t513)) (fun _ hk => hk.2) (.int .i64 t514)) (fun _ hk => hk.2) (.int .i64 t515)) (fun _ hk => hk.2) (.bool t516)) (fun _ h_ => h_.1))) hb); replace HO512 := Aside0.mk (Kd.R_below (ra_ (rs4_ HO512.out BK518.out)) hb); replace BK503 := fb_ BK503 NB503_518 hb; replace BK518 := Aside0.mk (blk_below (g := gb518) (o := .cells #[.int .i64 t513, .int .i64 t514, .int .i64 t515, .bool t516] 59 (0, 0)) (bp_ BK518).out hb); replace HB := bt_ HB hb; (try clear hb); (try clear hb2); (try clear hk); (try clear hi)) | (refine ge_ 66 Try.func46 #[.slice A1 l1.length c1] ?_; (with_reducible refine (laws_toMatrixS.calls k _ _ l1 t520 _ ?side1 ?side2 A21.out).mono ?_); (case side1 => exact ca_ (Kd.C_below HR1.out HB.out)); (case side2 => exact HC1.out); rintro e w51 ⟨v521, rfl, ho0, hb⟩; refine ⟨_, rfl, ?_⟩; have HO522 := Aside0.mk (Kd.R_lower (Kd.R_new' (Kd.R_new' ho0 (Kd.R_lt (ra_ HO491.out))) (Kd.R_lt (ra_ HO506.out))) (below_size (bw_ HB).out)); replace HO491 := Aside0.mk (Kd.R_elder' (ra_ HO491.out) (Kd.R_base ho0) hb); replace HO494 := Aside0.mk (Kd.R_below (ra_ HO494.out) hb); replace HO497 := Aside0.mk (Kd.R_below (ra_ HO497.out) hb); replace HO506 := Aside0.mk (Kd.R_elder' (ra_ HO506.out) (Kd.R_base ho0) hb); replace HO509 := Aside0.mk (Kd.R_below (ra_ HO509.out) hb); replace HO512 := Aside0.mk (Kd.R_below (ra_ HO512.out) hb); replace BK503 := bb_ BK503 hb; replace BK518 := bb_ BK518 hb; replace HB := bt_ HB hb; (try clear hb); (try clear hb2); (try clear hk); (try clear hi); (try clear ho0); obtain ⟨Ao52, co52, eo52⟩ := Kd.R_slice HO522.out; subst eo52) | (refine ge_ 67 Try.func51 #[.slice Ao42 t504.length co42, .slice Ao52 t520.length co52] ?_; (with_reducible refine (laws_eqMatrixS.calls k _ _ t504 _ _ t520 true _ ?side1 ?side2 ?side3 ?side4 A22.out).mono ?_); (case side1 => exact ca_ (Kd.R_reads' HO506.out).2.2); (case side2 => exact (Kd.R_reads' HO506.out).2.1); (case side3 => exact ca_ (Kd.R_reads' HO522.out).2.2); (case side4 => exact (Kd.R_reads' HO522.out).2.1); rintro e w53 ⟨rfl, hb⟩; refine ⟨_, rfl, ?_⟩; replace HO491 := Aside0.mk (Kd.R_below (ra_ HO491.out) hb); replace HO494 := Aside0.mk (Kd.R_below (ra_ HO494.out) hb); replace HO497 := Aside0.mk (Kd.R_below (ra_ HO497.out) hb); replace HO506 := Aside0.mk (Kd.R_below (ra_ HO506.out) hb); replace HO509 := Aside0.mk (Kd.R_below (ra_ HO509.out) hb); replace HO512 := Aside0.mk (Kd.R_below (ra_ HO512.out) hb); replace HO522 := Aside0.mk (Kd.R_below (ra_ HO522.out) hb); replace BK503 := bb_ BK503 hb; replace BK518 := bb_ BK518 hb; replace HB := bt_ HB hb; (try clear hb); (try clear hb2); (try clear hk); (try clear hi)) | (refine ge_ 71 Try.func47 #[.slice A2 l2.length c2] ?_; (with_reducible refine (laws_toSideS.calls k _ _ l2 t524 _ ?side1 ?side2 A24.out).mono ?_); (case side1 => exact ca_ (Kd.C_below HR2.out HB.out)); (case side2 => exact HC2.out); rintro e w54 ⟨v525, rfl, ho0, hb⟩; refine ⟨_, rfl, ?_⟩; have HO526 := Aside0.mk (Kd.R_lower (Kd.R_newB (Kd.R_newB (Kd.R_new' (Kd.R_new' ho0 (Kd.R_lt (ra_ HO494.out))) (Kd.R_lt (ra_ HO509.out))) (g := gb503) (o := .cells #[.int .i64 t498, .int .i64 t499, .int .i64 t500, .bool t501] 59 (0, 0)) (bl_ BK503).out) (g := gb518) (o := .cells #[.int .i64 t513, .int .i64 t514, .int .i64 t515, .bool t516] 59 (0, 0)) (bl_ BK518).out) (below_size (bw_ HB).out)); replace HO491 := Aside0.mk (Kd.R_below (ra_ HO491.out) hb); replace HO494 := Aside0.mk (Kd.R_elder' (ra_ HO494.out) (Kd.R_base ho0) hb); replace HO497 := Aside0.mk (Kd.R_below (ra_ HO497.out) hb); replace HO506 := Aside0.mk (Kd.R_below (ra_ HO506.out) hb); replace HO509 := Aside0.mk (Kd.R_elder' (ra_ HO509.out) (Kd.R_base ho0) hb); replace HO512 := Aside0.mk (Kd.R_below (ra_ HO512.out) hb); replace HO522 := Aside0.mk (Kd.R_below (ra_ HO522.out) hb); replace BK503 := bb_ BK503 hb; replace BK518 := bb_ BK518 hb; replace HB := bt_ HB hb; (try clear hb); (try clear hb2); (try clear hk); (try clear hi); (try clear ho0); obtain ⟨Ao55, co55, eo55⟩ := Kd.R_slice HO526.out; subst eo55) | (refine ge_ 72 Try.func52 #[.slice Ao43 t507.length co43, .slice Ao55 t524.length co55] ?_; (with_reducible refine (laws_eqSideS.calls k _ _ t507 _ _ t524 true _ ?side1 ?side2 ?side3 ?side4 A25.out).mono ?_); (case side1 => exact ca_ (Kd.R_reads' HO509.out).2.2); (case side2 => exact (Kd.R_reads' HO509.out).2.1); (case side3 => exact ca_ (Kd.R_reads' HO526.out).2.2); (case side4 => exact (Kd.R_reads' HO526.out).2.1); rintro e w56 ⟨rfl, hb⟩; refine ⟨_, rfl, ?_⟩; replace HO491 := Aside0.mk (Kd.R_below (ra_ HO491.out) hb); replace HO494 := Aside0.mk (Kd.R_below (ra_ HO494.out) hb); replace HO497 := Aside0.mk (Kd.R_below (ra_ HO497.out) hb); replace HO506 := Aside0.mk (Kd.R_below (ra_ HO506.out) hb); replace HO509 := Aside0.mk (Kd.R_below (ra_ HO509.out) hb); replace HO512 := Aside0.mk (Kd.R_below (ra_ HO512.out) hb); replace HO522 := Aside0.mk (Kd.R_below (ra_ HO522.out) hb); replace HO526 := Aside0.mk (Kd.R_below (ra_ HO526.out) hb); replace BK503 := bb_ BK503 hb; replace BK518 := bb_ BK518 hb; replace HB := bt_ HB hb; (try clear hb); (try clear hb2); (try clear hk); (try clear hi)) | (refine ge_ 76 Try.func48 #[.slice A3 l3.length c3] ?_; (with_reducible refine (laws_toInt64S.calls k _ _ l3 t528 _ ?side1 ?side2 A27.out).mono ?_); (case side1 => exact ca_ (Kd.C_below HR3.out HB.out)); (case side2 => exact HC3.out); rintro e w57 ⟨v529, rfl, ho0, hb⟩; refine ⟨_, rfl, ?_⟩; have HO530 := Aside0.mk (Kd.R_lower (Kd.R_new' (Kd.R_new' ho0 (Kd.R_lt (ra_ HO497.out))) (Kd.R_lt (ra_ HO512.out))) (below_size (bw_ HB).out)); replace HO491 := Aside0.mk (Kd.R_below (ra_ HO491.out) hb); replace HO494 := Aside0.mk (Kd.R_below (ra_ HO494.out) hb); replace HO497 := Aside0.mk (Kd.R_elder' (ra_ HO497.out) (Kd.R_base ho0) hb); replace HO506 := Aside0.mk (Kd.R_below (ra_ HO506.out) hb); replace HO509 := Aside0.mk (Kd.R_below (ra_ HO509.out) hb); replace HO512 := Aside0.mk (Kd.R_elder' (ra_ HO512.out) (Kd.R_base ho0) hb); replace HO522 := Aside0.mk (Kd.R_below (ra_ HO522.out) hb); replace HO526 := Aside0.mk (Kd.R_below (ra_ HO526.out) hb); replace BK503 := bb_ BK503 hb; replace BK518 := bb_ BK518 hb; replace HB := bt_ HB hb; (try clear hb); (try clear hb2); (try clear hk); (try clear hi); (try clear ho0); obtain ⟨Ao58, co58, eo58⟩ := Kd.R_slice HO530.out; subst eo58) | (refine ge_ 77 Try.func53 #[.slice Ao44 t510.length co44, .slice Ao58 t528.length co58] ?_; (with_reducible refine (laws_eqInt64S.calls k _ _ t510 _ _ t528 true _ ?side1 ?side2 ?side3 ?side4 A28.out).mono ?_); (case side1 => exact ca_ (Kd.R_reads' HO512.out).2.2); (case side2 => exact (Kd.R_reads' HO512.out).2.1); (case side3 => exact ca_ (Kd.R_reads' HO530.out).2.2); (case side4 => exact (Kd.R_reads' HO530.out).2.1); rintro e w' ⟨rfl, ⟨nd, rfl⟩⟩; refine ⟨_, rfl, ?_⟩))
         go_ret
         exact ⟨es_, (bw_ HB).out⟩
        ·replace c29 := Bool.eq_false_iff.mpr c29
         subst c29
         have H1 : (none) = some r := by rw [if_neg (show ¬ (false = true) by decide)] at H; exact H
         clear H
         have H := H1
         clear H1
         exact absurd H (by simp)
       ·replace c26 := Bool.eq_false_iff.mpr c26
        subst c26
        have H1 : (none) = some r := by rw [if_neg (show ¬ (false = true) by decide)] at H; exact H
        clear H
        have H := H1
        clear H1
        exact absurd H (by simp)
      ·replace c23 := Bool.eq_false_iff.mpr c23
       subst c23
       have H1 : (none) = some r := by rw [if_neg (show ¬ (false = true) by decide)] at H; exact H
       clear H
       have H := H1
       clear H1
       exact absurd H (by simp)
     ·rw [if_neg c20] at H
      exact absurd H (by simp)
    ·replace c19 := Bool.eq_false_iff.mpr c19
     subst c19
     have H1 : (none) = some r := by rw [if_neg (show ¬ (false = true) by decide)] at H; exact H
     clear H
     have H := H1
     clear H1
     exact absurd H (by simp)
def laws_FnExactSideOfWord.Pure : Prop := ∀ (a0 : Int) (l1 : List (S25)) (l2 : List (S135)) (l3 : List Int), (Lit.int .i64 a0).wf = true → l1.length ≤ maxLen → (∀ z ∈ l1, wfS25 z) → l2.length ≤ maxLen → (∀ z ∈ l2, wfS135 z) → l3.length ≤ maxLen → (∀ z ∈ l3, (Lit.int .i64 z).wf = true) → ∃ k, laws_FnExactSideOfWord.f k a0 l1 l2 l3 = some true
end Go.Proofs.Ytbilincmcnnonaa.QS
