import Derived.Test.YtbilincmcnnonaaQSx8
import Derived.Test.YtbilincmcnnonaaQSx59
import Derived.Test.YtbilincmcnnonaaQSx69
import Derived.Test.YtbilincmcnnonaaQSx73
namespace Go.Proofs.Ytbilincmcnnonaa.QS
open Go.RowKit Go.Proofs.YtbilincmcnnonaaW.PrintWords Go.Proofs.YtbilincmcnnonaaW.PrintLast Go.Proofs.YtbilincmcnnonaaW.PrintMore
attribute [local go_sem] isSome_setCell max2_int min2_int max_two min_two max_three min_three max_four min_four
set_option linter.unusedVariables false
set_option linter.unusedSimpArgs false

/-! ### impl_SideOfWord: function 49 -/
mutual
def impl_SideOfWord.j0 : Nat → Int → List (S26) → List (S59) → List Int → Bool → Int → Bool → Option (Int × Int × Int × Bool × Int)
 | 0, _, _, _, _, _, _, _ => none
 | k + 1, x0, x1, x2, x3, x10, x11, x29 => if x29 = true then (some (0, 0, 0, false, x11)) else ((impl_isWord.f k (x1.length : Int) x3).bind fun t449 => (if t449 = true then (if x11 = 0 then (if x10 = true then ((impl_isShort.f k x3).bind fun t450 => (if t450 = true then (if (x3.length : Int) = 0 then (some (0, 0, 0, false, 5)) else (if 0 ≤ (wrap64 ((x3.length : Int) - 1)) then (if (wrap64 ((x3.length : Int) - 1)) < (x3.length : Int) then ((impl_letterSide.f x2 (rd x3 (wrap64 ((x3.length : Int) - 1)))).bind fun bt452 => (impl_SideOfWord.l0 k x0 x1 x3 (wrap64 ((wrap64 ((x3.length : Int) - 1)) - 1)) bt452.1 bt452.2.1 bt452.2.2.1 bt452.2.2.2)) else (none)) else (none))) else (some (0, 0, 0, false, 5)))) else (some (0, 0, 0, false, 5))) else (some (0, 0, 0, false, x11))) else (some (0, 0, 0, false, 2))))
def impl_SideOfWord.l0 : Nat → Int → List (S26) → List Int → Int → Int → Int → Int → Bool → Option (Int × Int × Int × Bool × Int)
 | 0, _, _, _, _, _, _, _, _ => none
 | k + 1, x0, x1, x3, x14, x457000, x457001, x457002, x457003 => if x14 ≥ 0 then (if 0 ≤ x14 then (if x14 < (x3.length : Int) then ((impl_letterMatrix.f k x1 (rd x3 x14)).bind fun bt458 => ((impl_moveSide.f k x0 bt458.1 bt458.2.1 bt458.2.2.1 bt458.2.2.2 x457000 x457001 x457002 x457003).bind fun bt462 => (if bt462.2.2.2.2 = true then (impl_SideOfWord.l0 k x0 x1 x3 (wrap64 (x14 - 1)) bt462.1 bt462.2.1 bt462.2.2.1 bt462.2.2.2.1) else (some (0, 0, 0, false, 3))))) else (none)) else (none)) else (some (x457000, x457001, x457002, x457003, 0))
end
def impl_SideOfWord.f (k : Nat) (a0 : Int) (l1 : List (S26)) (l2 : List (S59)) (l3 : List Int) : Option (Int × Int × Int × Bool × Int) := (impl_freeCode.f k a0 l1 l2).bind fun bt447 => (if bt447.2 = 1 then (impl_SideOfWord.j0 k a0 l1 l2 l3 bt447.1 bt447.2 true) else (impl_SideOfWord.j0 k a0 l1 l2 l3 bt447.1 bt447.2 (bt447.2 == 2)))
def impl_SideOfWord.T15 : Bool × List (List Nat × List Nat) := (true, [([], []), ([], []), ([], []), ([], []), ([2, 3], [2, 3]), ([4], [4]), ([1, 5], [1, 5]), ([], []), ([0, 6, 7, 6], [0, 6, 7]), ([8], [8]), ([9], [9]), ([9], [9]), ([], []), ([12, 10, 8, 0, 1, 2, 3, 4, 5, 6, 7, 8, 9, 10, 12], [10, 12]), ([11, 13, 0, 1, 2, 3, 4, 5, 6, 7, 8, 9, 10, 11, 12, 13], [11])])
def impl_SideOfWord.B15 : List Nat := [0, 0, 0, 0, 12, 28, 62, 0, 255, 511, 1023, 1023, 0, 6143, 16383]
theorem impl_SideOfWord.tab15 : rtab .any (opsOf Try.f49 15) = impl_SideOfWord.T15 := by kernel_rfl
theorem impl_SideOfWord.bits15 : waitsOk impl_SideOfWord.T15.2 impl_SideOfWord.B15 = true := by kernel_rfl
set_option maxHeartbeats 8000000 in
set_option maxRecDepth 100000 in
theorem impl_SideOfWord.calls (k : Nat) (a0 : Int) (A1 : Option Addr) (c1 : Nat) (l1 : List (S26)) (A2 : Option Addr) (c2 : Nat) (l2 : List (S59)) (A3 : Option Addr) (c3 : Nat) (l3 : List Int) (r1 : Int) (r2 : Int) (r3 : Int) (r4 : Bool) (r5 : Int) (w : World) (hr1 : Kd.C k26 w A1 l1.length l1) (hc1 : l1.length ≤ c1) (hr2 : Kd.C k59 w A2 l2.length l2) (hc2 : l2.length ≤ c2) (hr3 : Kd.C (Kd.int .i64) w A3 l3.length l3) (hc3 : l3.length ≤ c3) (h : impl_SideOfWord.f k a0 l1 l2 l3 = some (r1, r2, r3, r4, r5)) :
  Calls Try.prog 49 #[.int .i64 a0, .slice A1 l1.length c1, .slice A2 l2.length c2, .slice A3 l3.length c3] w fun e w' => e = .returned (.tuple #[.agg #[.int .i64 r1, .int .i64 r2, .int .i64 r3, .bool r4], .int .i64 r5]) ∧ Below w.heap.size w w' := by
 have hu59 := Try.underlying59
 have HR1 := Aside0.mk hr1
 have HC1 := Aside0.mk hc1
 clear hr1 hc1
 have HR2 := Aside0.mk hr2
 have HC2 := Aside0.mk hc2
 clear hr2 hc2
 have HR3 := Aside0.mk hr3
 have HC3 := Aside0.mk hc3
 clear hr3 hc3
 have HB := Aside0.mk (Below.refl w.heap.size w)
 have H : ((impl_freeCode.f k a0 l1 l2).bind fun bt447 => (if bt447.2 = 1 then (impl_SideOfWord.j0 k a0 l1 l2 l3 bt447.1 bt447.2 true) else (impl_SideOfWord.j0 k a0 l1 l2 l3 bt447.1 bt447.2 (bt447.2 == 2)))) = some (r1, r2, r3, r4, r5) := h
 clear h
 replace H := ob_ H
 obtain ⟨⟨t447, t448⟩, A50, H⟩ := H
 have A5 := Aside0.mk A50
 clear A50
 have HC6 := Aside0.mk H
 clear H
 go_enter Try.func49, Try.ntmps49
 go_upto_region 2 with (first | ((with_reducible refine gate_dst (N := 8) rfl ?_); (try (refine gate_guard (by rfl) ?_; dsimp only)); refine bx_ 8 #[.int .i64 0, .int .i64 0, .int .i64 0, .bool false] 59 ?_; intro gb446 hg w7 hbox hb; have BK446 := Aside0.mk (hbox); have GW446 := bs_ HB hg; have GE446 := bs_ HB hg; replace HB := bt_ HB hb; clear hb hbox hg) | (refine ge_ 21 Try.func120 #[.int .i64 a0, .slice A1 l1.length c1, .slice A2 l2.length c2] ?_; (with_reducible refine (impl_freeCode.calls k a0 _ _ l1 _ _ l2 t447 t448 _ ?side1 ?side2 ?side3 ?side4 A5.out).mono ?_); (case side1 => exact ca_ (Kd.C_below HR1.out HB.out)); (case side2 => exact HC1.out); (case side3 => exact ca_ (Kd.C_below HR2.out HB.out)); (case side4 => exact HC2.out); rintro e w8 ⟨rfl, hb⟩; refine ⟨_, rfl, ?_⟩; replace BK446 := bb_ BK446 hb; replace HB := bt_ HB hb; (try clear hb); (try clear hb2); (try clear hk); (try clear hi)))
 (try simp only [Act.put, lstS, lstZ, lstC])
 go_cut [29] (fun v29 wc => ∃ (kq : Nat) (x29_5 : Bool), v29 = .bool x29_5 ∧ Aside0 (impl_SideOfWord.j0 kq a0 l1 l2 l3 t447 t448 x29_5 = some (r1, r2, r3, r4, r5)) ∧ Aside0 (kq ≤ k) ∧ Aside0 (wc.heap[gb446]? = some (.cells #[.int .i64 0, .int .i64 0, .int .i64 0, .bool false] 59 (0, 0))) ∧ Aside0 (Below w.heap.size w wc))
 case first =>
  have H := HC6.out
  clear HC6
  by_cases c9 : t448 = 1
  ·rw [if_pos c9] at H
   have c9b0 : (t448 == 1) = true := beq_iff_eq.mpr c9
   have c9b1 : (t448 != 1) = false := bne_eq_false_iff_eq.mpr c9
   clear c9
   (first | rw [c9b0] | (simp only [i64_w, i32_w]; rw [c9b0]) | skip)
   have H' := Aside0.mk H
   clear H
   go_wp2
   go_meet
   case rel => exact ⟨_, (true), en_, H', ⟨by first | omega | exact Nat.le_refl _⟩, bl_ BK446, bw_ HB⟩
  ·rw [if_neg c9] at H
   have c9b0 : (t448 == 1) = false := beq_eq_false_iff_ne.mpr c9
   have c9b1 : (t448 != 1) = true := bne_iff_ne.mpr c9
   (first | rw [c9b0] | (simp only [i64_w, i32_w]; rw [c9b0]) | skip)
   have H' := Aside0.mk H
   clear H
   go_wp2
   go_meet
   case rel => exact ⟨_, ((t448 == 2)), en_, H', ⟨by first | omega | exact Nat.le_refl _⟩, bl_ BK446, bw_ HB⟩
 case rest =>
  clear HC6
  try clear c1
  try clear c2
  try clear p2
  try clear c3
  try clear c4
  try clear c9
  try clear c9b0
  try clear c9b1
  obtain ⟨kq, x29_5, rfl, HA, HJ5, BK446, HB⟩ := hcut
  cases kq with
  | zero => exact absurd HA.out (by simp [impl_SideOfWord.j0])
  | succ kj5 =>
   have H := HA.out
   clear HA
   simp only [impl_SideOfWord.j0] at H
   by_cases c10 : x29_5 = true
   ·subst c10
    have H1 : (some (0, 0, 0, false, t448)) = some (r1, r2, r3, r4, r5) := by rw [if_pos rfl] at H; exact H
    clear H
    have H := H1
    clear H1
    simp only [Option.some.injEq, Prod.mk.injEq] at H
    obtain ⟨rfl, rfl, rfl, rfl, rfl⟩ := H
    obtain ⟨hcz11_0, hcz11_1, hcz11_2, hcz11_3, hfz11_0, hfz11_1, hfz11_2, hfz11_3⟩ := ch4_ BK446
    go_wp2
    refine bodyPost_ret (results_ct rfl _ _ gb446 59 #[.int .i64 0, .int .i64 0, .int .i64 0, .bool false] (0, 0) _ rfl (bp_ BK446).out Try.underlying59 rfl (by kernel_rfl)) rfl ?_
    exact ⟨es_, (bw_ HB).out⟩
   ·replace c10 := Bool.eq_false_iff.mpr c10
    subst c10
    have H1 : ((impl_isWord.f kj5 (l1.length : Int) l3).bind fun t449 => (if t449 = true then (if t448 = 0 then (if t447 = true then ((impl_isShort.f kj5 l3).bind fun t450 => (if t450 = true then (if (l3.length : Int) = 0 then (some (0, 0, 0, false, 5)) else (if 0 ≤ (wrap64 ((l3.length : Int) - 1)) then (if (wrap64 ((l3.length : Int) - 1)) < (l3.length : Int) then ((impl_letterSide.f l2 (rd l3 (wrap64 ((l3.length : Int) - 1)))).bind fun bt452 => (impl_SideOfWord.l0 kj5 a0 l1 l3 (wrap64 ((wrap64 ((l3.length : Int) - 1)) - 1)) bt452.1 bt452.2.1 bt452.2.2.1 bt452.2.2.2)) else (none)) else (none))) else (some (0, 0, 0, false, 5)))) else (some (0, 0, 0, false, 5))) else (some (0, 0, 0, false, t448))) else (some (0, 0, 0, false, 2)))) = some (r1, r2, r3, r4, r5) := by rw [if_neg (show ¬ (false = true) by decide)] at H; exact H
    clear H
    have H := H1
    clear H1
    replace H := ob_ H
    obtain ⟨t449, A120, H⟩ := H
    have A12 := Aside0.mk A120
    clear A120
    by_cases c13 : t449 = true
    ·subst c13
     have H1 : (if t448 = 0 then (if t447 = true then ((impl_isShort.f kj5 l3).bind fun t450 => (if t450 = true then (if (l3.length : Int) = 0 then (some (0, 0, 0, false, 5)) else (if 0 ≤ (wrap64 ((l3.length : Int) - 1)) then (if (wrap64 ((l3.length : Int) - 1)) < (l3.length : Int) then ((impl_letterSide.f l2 (rd l3 (wrap64 ((l3.length : Int) - 1)))).bind fun bt452 => (impl_SideOfWord.l0 kj5 a0 l1 l3 (wrap64 ((wrap64 ((l3.length : Int) - 1)) - 1)) bt452.1 bt452.2.1 bt452.2.2.1 bt452.2.2.2)) else (none)) else (none))) else (some (0, 0, 0, false, 5)))) else (some (0, 0, 0, false, 5))) else (some (0, 0, 0, false, t448))) = some (r1, r2, r3, r4, r5) := by rw [if_pos rfl] at H; exact H
     clear H
     have H := H1
     clear H1
     by_cases c14 : t448 = 0
     ·rw [if_pos c14] at H
      have c14b0 : (t448 == 0) = true := beq_iff_eq.mpr c14
      have c14b1 : (t448 != 0) = false := bne_eq_false_iff_eq.mpr c14
      clear c14
      by_cases c15 : t447 = true
      ·subst c15
       have H1 : ((impl_isShort.f kj5 l3).bind fun t450 => (if t450 = true then (if (l3.length : Int) = 0 then (some (0, 0, 0, false, 5)) else (if 0 ≤ (wrap64 ((l3.length : Int) - 1)) then (if (wrap64 ((l3.length : Int) - 1)) < (l3.length : Int) then ((impl_letterSide.f l2 (rd l3 (wrap64 ((l3.length : Int) - 1)))).bind fun bt452 => (impl_SideOfWord.l0 kj5 a0 l1 l3 (wrap64 ((wrap64 ((l3.length : Int) - 1)) - 1)) bt452.1 bt452.2.1 bt452.2.2.1 bt452.2.2.2)) else (none)) else (none))) else (some (0, 0, 0, false, 5)))) = some (r1, r2, r3, r4, r5) := by rw [if_pos rfl] at H; exact H
       clear H
       have H := H1
       clear H1
       replace H := ob_ H
       obtain ⟨t450, A160, H⟩ := H
       have A16 := Aside0.mk A160
       clear A160
       by_cases c17 : t450 = true
       ·subst c17
        have H1 : (if (l3.length : Int) = 0 then (some (0, 0, 0, false, 5)) else (if 0 ≤ (wrap64 ((l3.length : Int) - 1)) then (if (wrap64 ((l3.length : Int) - 1)) < (l3.length : Int) then ((impl_letterSide.f l2 (rd l3 (wrap64 ((l3.length : Int) - 1)))).bind fun bt452 => (impl_SideOfWord.l0 kj5 a0 l1 l3 (wrap64 ((wrap64 ((l3.length : Int) - 1)) - 1)) bt452.1 bt452.2.1 bt452.2.2.1 bt452.2.2.2)) else (none)) else (none))) = some (r1, r2, r3, r4, r5) := by rw [if_pos rfl] at H; exact H
        clear H
        have H := H1
        clear H1
        by_cases c18 : (l3.length : Int) = 0
        ·rw [if_pos c18] at H
         have c18b0 : ((l3.length : Int) == 0) = true := beq_iff_eq.mpr c18
         have c18b1 : ((l3.length : Int) != 0) = false := bne_eq_false_iff_eq.mpr c18
         clear c18
         simp only [Option.some.injEq, Prod.mk.injEq] at H
         obtain ⟨rfl, rfl, rfl, rfl, rfl⟩ := H
         go_wp2_with (first | (refine ge_ 36 Try.func121 #[.int .i64 (l1.length : Int), .slice A3 l3.length c3] ?_; (with_reducible refine (impl_isWord.calls kj5 (l1.length : Int) _ _ l3 true _ ?side1 ?side2 A12.out).mono ?_); (case side1 => exact ca_ (Kd.C_below HR3.out HB.out)); (case side2 => exact HC3.out); rintro e w19 ⟨rfl, hb⟩; refine ⟨_, rfl, ?_⟩; replace BK446 := bb_ BK446 hb; replace HB := bt_ HB hb; (try clear hb); (try clear hb2); (try clear hk); (try clear hi)) | (go_at_call 122; (with_reducible refine (impl_isShort.calls kj5 _ _ l3 true _ ?side1 ?side2 A16.out).mono ?_); (case side1 => exact ca_ (Kd.C_below HR3.out HB.out)); (case side2 => exact HC3.out); rintro e w' ⟨rfl, ⟨nd, rfl⟩⟩; (try (rw [drewN_self w19]; generalize hq_ : World.drewN w19 _ = w19; have n0_ : Aside0 (w19.heap[gb446]? = some (.cells #[.int .i64 0, .int .i64 0, .int .i64 0, .bool false] 59 (0, 0))) := ⟨by rw [← hq_]; exact (bl_ BK446).out⟩; have n1_ : Aside0 (Below w.heap.size w w19) := ⟨by rw [← hq_]; exact (bw_ HB).out⟩; clear BK446 HB hq_; have BK446 := n0_; have HB := n1_; clear n0_ n1_)); obtain ⟨hcz20_0, hcz20_1, hcz20_2, hcz20_3, hfz20_0, hfz20_1, hfz20_2, hfz20_3⟩ := ch4_ BK446))
         refine bodyPost_ret (results_ct rfl _ _ gb446 59 #[.int .i64 0, .int .i64 0, .int .i64 0, .bool false] (0, 0) _ rfl (bp_ BK446).out Try.underlying59 rfl (by kernel_rfl)) rfl ?_
         exact ⟨es_, (bw_ HB).out⟩
        ·rw [if_neg c18] at H
         have c18b0 : ((l3.length : Int) == 0) = false := beq_eq_false_iff_ne.mpr c18
         have c18b1 : ((l3.length : Int) != 0) = true := bne_iff_ne.mpr c18
         have c18b2 : ¬ (l3 = []) := fun h_ => c18 (by rw [h_]; rfl)
         obtain ⟨ji21, hji21⟩ : ∃ j_ : Int, (wrap64 ((l3.length : Int) - 1)) = j_ := ⟨_, rfl⟩
         replace H : (if 0 ≤ (ji21) then (if (ji21) < (l3.length : Int) then ((impl_letterSide.f l2 (rd l3 (ji21))).bind fun bt452 => (impl_SideOfWord.l0 kj5 a0 l1 l3 (wrap64 ((ji21) - 1)) bt452.1 bt452.2.1 bt452.2.2.1 bt452.2.2.2)) else (none)) else (none)) = some (r1, r2, r3, r4, r5) := by first | (rw [hji21] at H; exact H) | (simp only [hji21] at H ⊢; exact H)
         (try rw [hji21] at A12)
         (try rw [hji21] at A16)
         have hji21w : (IntKind.i64.wrap ((l3.length : Int) - 1)) = ji21 := (i64_w _).trans hji21
         by_cases c22 : 0 ≤ (ji21)
         ·rw [if_pos c22] at H
          have c22b0 : decide (0 ≤ (ji21)) = true := decide_eq_true c22
          clear c22
          by_cases c23 : (ji21) < (l3.length : Int)
          ·rw [if_pos c23] at H
           have c23b0 : decide ((ji21) < (l3.length : Int)) = true := decide_eq_true c23
           clear c23
           replace H := ob_ H
           obtain ⟨⟨t452, t453, t454, t455⟩, A240, H⟩ := H
           have A24 := Aside0.mk A240
           clear A240
           have H' := Aside0.mk H
           clear H
           go_wp2_with (first | (refine ge_ 36 Try.func121 #[.int .i64 (l1.length : Int), .slice A3 l3.length c3] ?_; (with_reducible refine (impl_isWord.calls kj5 (l1.length : Int) _ _ l3 true _ ?side1 ?side2 A12.out).mono ?_); (case side1 => exact ca_ (Kd.C_below HR3.out HB.out)); (case side2 => exact HC3.out); rintro e w25 ⟨rfl, hb⟩; refine ⟨_, rfl, ?_⟩; replace BK446 := bb_ BK446 hb; replace HB := bt_ HB hb; (try clear hb); (try clear hb2); (try clear hk); (try clear hi)) | (go_at_call 122; (with_reducible refine (impl_isShort.calls kj5 _ _ l3 true _ ?side1 ?side2 A16.out).mono ?_); (case side1 => exact ca_ (Kd.C_below HR3.out HB.out)); (case side2 => exact HC3.out); rintro e w' ⟨rfl, ⟨nd, rfl⟩⟩; (try (rw [drewN_self w25]; generalize hq_ : World.drewN w25 _ = w25; have n0_ : Aside0 (w25.heap[gb446]? = some (.cells #[.int .i64 0, .int .i64 0, .int .i64 0, .bool false] 59 (0, 0))) := ⟨by rw [← hq_]; exact (bl_ BK446).out⟩; have n1_ : Aside0 (Below w.heap.size w w25) := ⟨by rw [← hq_]; exact (bw_ HB).out⟩; clear BK446 HB hq_; have BK446 := n0_; have HB := n1_; clear n0_ n1_)); have p451 : 0 ≤ ((ji21) : Int) := od_; have q451 : (ji21) < (l3.length : Int) := od_; obtain ⟨ad451, e451, hx451_0⟩ := Kd.at_int HR3.out (ji21) p451 q451; cases e451; replace hx451_0 := clTr HB.out hx451_0; replace p451 := eq_true p451; replace q451 := eq_true q451) | (refine ge_ 66 Try.func123 #[.slice A2 l2.length c2, .int .i64 (rd l3 (ji21))] ?_ (hargs := by (try simp only [List.map_toArray, List.map_cons, List.map_nil]); first | done | (simp only [hji21]; rfl) | rfl | (simp only [List.length_drop, List.length_take]; rfl)); (with_reducible refine (impl_letterSide.calls _ _ l2 (rd l3 (ji21)) t452 t453 t454 t455 _ ?side1 ?side2 A24.out).mono ?_); (case side1 => exact ca_ (Kd.C_below HR2.out HB.out)); (case side2 => exact HC2.out); rintro e w26 ⟨rfl, hb⟩; refine ⟨_, rfl, ?_⟩; replace BK446 := bb_ BK446 hb; replace HB := bt_ HB hb; (try clear hb); (try clear hb2); (try clear hk); (try clear hi)) | ((with_reducible refine gate_dst (N := 13) rfl ?_); (try (refine gate_guard (by rfl) ?_; dsimp only)); refine bx_ 13 #[.int .i64 0, .int .i64 0, .int .i64 0, .bool false] 59 ?_; intro gb456 hg w27 hbox hb; have BK456 := Aside0.mk (hbox); have GW456 := bs_ HB hg; have GE456 := bs_ HB hg; have NB446_456 := bm_ BK446 hg; have NB456_446 := bn_ BK446 hg; replace BK446 := bb_ BK446 hb; replace HB := bt_ HB hb; clear hb hbox hg; have hnb28 := NB456_446.out; have hnc28 := NB446_456.out; obtain ⟨hcz29_0, hcz29_1, hcz29_2, hcz29_3, hfz29_0, hfz29_1, hfz29_2, hfz29_3⟩ := ch4_ BK456))
           go_loopg [14] kj5 (fun kq v14 w' => ∃ (x14_2 : Int) (x447000_2 : Int) (x447001_2 : Int) (x447002_2 : Int) (x447003_2 : Bool) (x457000_2 : Int) (x457001_2 : Int) (x457002_2 : Int) (x457003_2 : Bool), v14 = .int .i64 x14_2 ∧ Aside0 (impl_SideOfWord.l0 kq a0 l1 l3 x14_2 x457000_2 x457001_2 x457002_2 x457003_2 = some (r1, r2, r3, r4, r5)) ∧ Aside0 (kq ≤ kj5) ∧ Aside0 (w'.heap[gb446]? = some (.cells #[.int .i64 x447000_2, .int .i64 x447001_2, .int .i64 x447002_2, .bool x447003_2] 59 (0, 0))) ∧ Aside0 (w'.heap[gb456]? = some (.cells #[.int .i64 x457000_2, .int .i64 x457001_2, .int .i64 x457002_2, .bool x457003_2] 59 (0, 0))) ∧ Aside0 (Below w.heap.size w w'))
           case atStart => exact ⟨(wrap64 ((ji21) - 1)), (0), (0), (0), (false), (t452), (t453), (t454), (t455), (by first | rfl | (simp; done) | (simp only [← hji21] <;> (first | rfl | simp)) | (simp [*]; done)), H', ⟨Nat.le_refl _⟩, fl_ BK446 NB446_456, bp_ BK456, bw_ HB⟩
           case round =>
            clear H'
            try clear c1
            try clear c2
            try clear p2
            try clear c3
            try clear c4
            try clear p4
            try clear q4
            try clear hx4
            try clear p6
            try clear c9
            try clear c9b0
            try clear c9b1
            try clear c10
            try clear c12
            try clear c13
            try clear c14
            try clear c14b0
            try clear c14b1
            try clear c15
            try clear c17
            try clear c18
            try clear c18b0
            try clear c18b1
            try clear c18b2
            try clear c22
            try clear c22b0
            try clear c23
            try clear c23b0
            try clear c28
            try clear hcz11_0 hcz11_1 hcz11_2 hcz11_3
            try clear hcz20_0 hcz20_1 hcz20_2 hcz20_3
            try clear hcz29_0 hcz29_1 hcz29_2 hcz29_3
            try clear hfz11_0 hfz11_1 hfz11_2 hfz11_3
            try clear hfz20_0 hfz20_1 hfz20_2 hfz20_3
            try clear hfz29_0 hfz29_1 hfz29_2 hfz29_3
            try clear hx451_0
            try clear p2
            try clear p451
            try clear q451
            obtain ⟨x14_2, x447000_2, x447001_2, x447002_2, x447003_2, x457000_2, x457001_2, x457002_2, x457003_2, rfl, HA, HK2, BK446, BK456, HB⟩ := hrel
            cases gk with
            | zero => exact absurd HA.out (by simp [impl_SideOfWord.l0])
            | succ k2 =>
             have H := HA.out
             clear HA
             simp only [impl_SideOfWord.l0] at H
             by_cases c30 : x14_2 ≥ 0
             ·rw [if_pos c30] at H
              have c30b0 : decide (0 ≤ x14_2) = true := decide_eq_true c30
              clear c30
              by_cases c31 : 0 ≤ x14_2
              ·rw [if_pos c31] at H
               have c31b0 : decide (0 ≤ x14_2) = true := decide_eq_true c31
               clear c31
               by_cases c32 : x14_2 < (l3.length : Int)
               ·rw [if_pos c32] at H
                have c32b0 : decide (x14_2 < (l3.length : Int)) = true := decide_eq_true c32
                clear c32
                replace H := ob_ H
                obtain ⟨⟨t458, t459, t460, t461⟩, A330, H⟩ := H
                have A33 := Aside0.mk A330
                clear A330
                replace H := ob_ H
                obtain ⟨⟨t462, t463, t464, t465, t466⟩, A340, H⟩ := H
                have A34 := Aside0.mk A340
                clear A340
                by_cases c35 : t466 = true
                ·subst c35
                 have H1 : (impl_SideOfWord.l0 k2 a0 l1 l3 (wrap64 (x14_2 - 1)) t462 t463 t464 t465) = some (r1, r2, r3, r4, r5) := by rw [if_pos rfl] at H; exact H
                 clear H
                 have H := H1
                 clear H1
                 have H' := Aside0.mk H
                 clear H
                 try go_wp2
                 replace BK446 := Aside0.mk (blk_drew BK446.out)
                 replace BK456 := Aside0.mk (blk_drew BK456.out)
                 replace HB := Aside0.mk (below_drew1 HB.out)
                 have p457 : 0 ≤ (x14_2 : Int) := od_
                 have q457 : x14_2 < (l3.length : Int) := od_
                 obtain ⟨ad457, e457, hx457_0⟩ := Kd.at_int HR3.out x14_2 p457 q457
                 have hw457_0 := hx457_0
                 obtain rfl : ad451 = ad457 := (by injection e457)
                 replace hx457_0 := clTr HB.out hx457_0
                 replace p457 := eq_true p457
                 replace q457 := eq_true q457
                 refine start_ (n := 15) (S := fun w' => w'.cell? ⟨gb456, 0, none⟩ = some (.int .i64 x457000_2) ∧ w'.cell? ⟨gb456, 1, none⟩ = some (.int .i64 x457001_2) ∧ w'.cell? ⟨gb456, 2, none⟩ = some (.int .i64 x457002_2) ∧ w'.cell? ⟨gb456, 3, none⟩ = some (.bool x457003_2) ∧ w'.cell? (ad451.add (x14_2).toNat) = some (.int .i64 (rd l3 x14_2))) (ds := []) (bv_ 15 0) (by kernel_rfl) rfl rfl ⟨cz_ BK456 0, cz_ BK456 1, cz_ BK456 2, cz_ BK456 3, (clTr HB.out hw457_0 :)⟩ (fun hHeld => ?_); refine with_tabW impl_SideOfWord.tab15 impl_SideOfWord.bits15 (fun HT_ HW_ => ?_)
                 generalize wr.drew = w36 at BK446 BK456 HB hx457_0 hHeld ⊢
                 refine pu_ HT_ 0 (some 74) (bv_ 15 1) ?_
                 refine pu_ HT_ 1 (some 75) (bv_ 15 3) ?_
                 refine pu_ HT_ 2 (some 76) (bv_ 15 7) ?_
                 refine pu_ HT_ 3 (some 77) (bv_ 15 15) ?_
                 refine pu_ HT_ 4 (some 78) (bv_ 15 31) ?_
                 refine ta_ HT_ HW_ 5 (some 79) (bv_ 15 63) hHeld ?_ (hy := by rintro w' ⟨s0, s1, s2, s3, s4⟩; go_simp; with_reducible rfl)
                 refine ta_ HT_ HW_ 7 (some 81) (bv_ 15 191) hHeld ?_ (hy := by rintro w' ⟨s0, s1, s2, s3, s4⟩; go_simp; with_reducible rfl)
                 refine join_ (σ := Nat) 2 (bv_ 15 8191) (fun s_ => [(80, .agg #[.int .i64 t458, .int .i64 t459, .int .i64 t460, .int .i64 t461]), (82, .tuple #[.agg #[.int .i64 t462, .int .i64 t463, .int .i64 t464, .bool t465], .bool true]), (15, .pointer (some ⟨s_, 0, none⟩)), (73, .tuple #[.agg #[.int .i64 t462, .int .i64 t463, .int .i64 t464, .bool t465], .bool true]), (83, .agg #[.int .i64 t462, .int .i64 t463, .int .i64 t464, .bool t465]), (84, .bool true)]) (fun s_ w' => (w'.cell? ⟨gb456, 0, none⟩ = some (.int .i64 x457000_2) ∧ w'.cell? ⟨gb456, 1, none⟩ = some (.int .i64 x457001_2) ∧ w'.cell? ⟨gb456, 2, none⟩ = some (.int .i64 x457002_2) ∧ w'.cell? ⟨gb456, 3, none⟩ = some (.bool x457003_2) ∧ w'.cell? (ad451.add (x14_2).toNat) = some (.int .i64 (rd l3 x14_2))) ∧ (w'.heap[gb446]? = some (.cells #[.int .i64 x447000_2, .int .i64 x447001_2, .int .i64 x447002_2, .bool x447003_2] 59 (0, 0))) ∧ (w'.heap[gb456]? = some (.cells #[.int .i64 x457000_2, .int .i64 x457001_2, .int .i64 x457002_2, .bool x457003_2] 59 (0, 0))) ∧ (w'.heap[s_]? = some (.cells #[.int .i64 0, .int .i64 0, .int .i64 0, .bool false] 59 (0, 0))) ∧ (w.heap.size ≤ s_) ∧ (w.heap.size ≤ s_) ∧ (gb446 ≠ s_) ∧ (s_ ≠ gb446) ∧ (gb456 ≠ s_) ∧ (s_ ≠ gb456) ∧ (Below w.heap.size w w')) ?_ ?_
                 rotate_left
                 ·intro hCont
                  refine tw_ HT_ 6 12 (some 80) (some 15) (bv_ 15 255) (bv_ 15 4287) (fun K hK => ?_) (fun K hK => ?_)
                  ·skip
                   refine gs_ Try.func125 #[.slice A1 l1.length c1, .int .i64 (rd l3 x14_2)] ?_
                   with_reducible refine (impl_letterMatrix.calls k2 _ _ l1 (rd l3 x14_2) t458 t459 t460 t461 _ ?side1 ?side2 A33.out).mono ?_
                   (case side1 => exact ca_ (Kd.C_below HR1.out HB.out))
                   (case side2 => exact HC1.out)
                   rintro e w37 ⟨rfl, hb⟩
                   refine ⟨_, rfl, ?_⟩
                   replace BK446 := bb_ BK446 hb
                   replace BK456 := bb_ BK456 hb
                   replace HB := bt_ HB hb
                   (try clear hb)
                   (try clear hb2)
                   (try clear hk)
                   (try clear hi)
                   refine hK.out _ _ ⟨cz_ BK456 0, cz_ BK456 1, cz_ BK456 2, cz_ BK456 3, (clTr HB.out hw457_0 :)⟩ (fun hHeld => ?_)
                   clear hK K
                   refine nm_ (some 80) ?_
                   refine tw_ HT_ 8 12 (some 82) (some 15) (bv_ 15 511) (bv_ 15 4351) (fun K hK => ?_) (fun K hK => ?_)
                   ·skip
                    refine gs_ Try.func124 #[.int .i64 a0, .agg #[.int .i64 t458, .int .i64 t459, .int .i64 t460, .int .i64 t461], .agg #[.int .i64 x457000_2, .int .i64 x457001_2, .int .i64 x457002_2, .bool x457003_2]] ?_
                    with_reducible refine (impl_moveSide.calls k2 a0 t458 t459 t460 t461 x457000_2 x457001_2 x457002_2 x457003_2 t462 t463 t464 t465 true _ A34.out).mono ?_
                    rintro e w38 ⟨rfl, hb⟩
                    refine ⟨_, rfl, ?_⟩
                    replace BK446 := bb_ BK446 hb
                    replace BK456 := bb_ BK456 hb
                    replace HB := bt_ HB hb
                    (try clear hb)
                    (try clear hb2)
                    (try clear hk)
                    (try clear hi)
                    refine hK.out _ _ ⟨cz_ BK456 0, cz_ BK456 1, cz_ BK456 2, cz_ BK456 3, (clTr HB.out hw457_0 :)⟩ (fun hHeld => ?_)
                    clear hK K
                    refine nm_ (some 82) ?_
                    refine pu_ HT_ 9 (some 73) (bv_ 15 1023) ?_
                    refine pu_ HT_ 10 (some 83) (bv_ 15 2047) ?_
                    refine pu_ HT_ 11 (some 84) (bv_ 15 4095) ?_
                    refine on_ HT_ 12 (some 15) (bv_ 15 8191) (fun K hK => ?_)
                    refine bz_ 15 #[.int .i64 0, .int .i64 0, .int .i64 0, .bool false] 59 ?_
                    intro gb467 hg w39 hbox hb
                    have BK467 := Aside0.mk (hbox)
                    have GW467 := bs_ HB hg
                    have GE467 := bs_ HB hg
                    have NB446_467 := bm_ BK446 hg
                    have NB467_446 := bn_ BK446 hg
                    have NB456_467 := bm_ BK456 hg
                    have NB467_456 := bn_ BK456 hg
                    replace BK446 := bb_ BK446 hb
                    replace BK456 := bb_ BK456 hb
                    replace HB := bt_ HB hb
                    clear hb hbox hg
                    refine hK.out _ _ ⟨cz_ BK456 0, cz_ BK456 1, cz_ BK456 2, cz_ BK456 3, (clTr HB.out hw457_0 :)⟩ (fun hHeld => ?_)
                    clear hK K
                    refine nm_ (some 15) ?_
                    exact norm_ (by simp only [putAll, Act.put, lstS, lstZ, lstC]) (hCont (gb467) _ ⟨hHeld, (bl_ BK446).out, (bl_ BK456).out, (bl_ BK467).out, GW467.out, GE467.out, NB446_467.out, NB467_446.out, NB456_467.out, NB467_456.out, (bw_ HB).out⟩)
                   ·skip
                    refine bz_ 15 #[.int .i64 0, .int .i64 0, .int .i64 0, .bool false] 59 ?_
                    intro gb467 hg w38 hbox hb
                    have BK467 := Aside0.mk (hbox)
                    have GW467 := bs_ HB hg
                    have GE467 := bs_ HB hg
                    have NB446_467 := bm_ BK446 hg
                    have NB467_446 := bn_ BK446 hg
                    have NB456_467 := bm_ BK456 hg
                    have NB467_456 := bn_ BK456 hg
                    replace BK446 := bb_ BK446 hb
                    replace BK456 := bb_ BK456 hb
                    replace HB := bt_ HB hb
                    clear hb hbox hg
                    refine hK.out _ _ ⟨cz_ BK456 0, cz_ BK456 1, cz_ BK456 2, cz_ BK456 3, (clTr HB.out hw457_0 :)⟩ (fun hHeld => ?_)
                    clear hK K
                    refine nm_ (some 15) ?_
                    refine on_ HT_ 8 (some 82) (bv_ 15 4607) (fun K hK => ?_)
                    refine gs_ Try.func124 #[.int .i64 a0, .agg #[.int .i64 t458, .int .i64 t459, .int .i64 t460, .int .i64 t461], .agg #[.int .i64 x457000_2, .int .i64 x457001_2, .int .i64 x457002_2, .bool x457003_2]] ?_
                    with_reducible refine (impl_moveSide.calls k2 a0 t458 t459 t460 t461 x457000_2 x457001_2 x457002_2 x457003_2 t462 t463 t464 t465 true _ A34.out).mono ?_
                    rintro e w39 ⟨rfl, hb⟩
                    refine ⟨_, rfl, ?_⟩
                    replace BK446 := bb_ BK446 hb
                    replace BK456 := bb_ BK456 hb
                    replace BK467 := bb_ BK467 hb
                    replace HB := bt_ HB hb
                    (try clear hb)
                    (try clear hb2)
                    (try clear hk)
                    (try clear hi)
                    refine hK.out _ _ ⟨cz_ BK456 0, cz_ BK456 1, cz_ BK456 2, cz_ BK456 3, (clTr HB.out hw457_0 :)⟩ (fun hHeld => ?_)
                    clear hK K
                    refine nm_ (some 82) ?_
                    refine pu_ HT_ 9 (some 73) (bv_ 15 5119) ?_
                    refine pu_ HT_ 10 (some 83) (bv_ 15 6143) ?_
                    refine pu_ HT_ 11 (some 84) (bv_ 15 8191) ?_
                    exact norm_ (by simp only [putAll, Act.put, lstS, lstZ, lstC]) (hCont (gb467) _ ⟨hHeld, (bl_ BK446).out, (bl_ BK456).out, (bl_ BK467).out, GW467.out, GE467.out, NB446_467.out, NB467_446.out, NB456_467.out, NB467_456.out, (bw_ HB).out⟩)
                  ·skip
                   refine bz_ 15 #[.int .i64 0, .int .i64 0, .int .i64 0, .bool false] 59 ?_
                   intro gb467 hg w37 hbox hb
                   have BK467 := Aside0.mk (hbox)
                   have GW467 := bs_ HB hg
                   have GE467 := bs_ HB hg
                   have NB446_467 := bm_ BK446 hg
                   have NB467_446 := bn_ BK446 hg
                   have NB456_467 := bm_ BK456 hg
                   have NB467_456 := bn_ BK456 hg
                   replace BK446 := bb_ BK446 hb
                   replace BK456 := bb_ BK456 hb
                   replace HB := bt_ HB hb
                   clear hb hbox hg
                   refine hK.out _ _ ⟨cz_ BK456 0, cz_ BK456 1, cz_ BK456 2, cz_ BK456 3, (clTr HB.out hw457_0 :)⟩ (fun hHeld => ?_)
                   clear hK K
                   refine nm_ (some 15) ?_
                   refine on_ HT_ 6 (some 80) (bv_ 15 4351) (fun K hK => ?_)
                   refine gs_ Try.func125 #[.slice A1 l1.length c1, .int .i64 (rd l3 x14_2)] ?_
                   with_reducible refine (impl_letterMatrix.calls k2 _ _ l1 (rd l3 x14_2) t458 t459 t460 t461 _ ?side1 ?side2 A33.out).mono ?_
                   (case side1 => exact ca_ (Kd.C_below HR1.out HB.out))
                   (case side2 => exact HC1.out)
                   rintro e w38 ⟨rfl, hb⟩
                   refine ⟨_, rfl, ?_⟩
                   replace BK446 := bb_ BK446 hb
                   replace BK456 := bb_ BK456 hb
                   replace BK467 := bb_ BK467 hb
                   replace HB := bt_ HB hb
                   (try clear hb)
                   (try clear hb2)
                   (try clear hk)
                   (try clear hi)
                   refine hK.out _ _ ⟨cz_ BK456 0, cz_ BK456 1, cz_ BK456 2, cz_ BK456 3, (clTr HB.out hw457_0 :)⟩ (fun hHeld => ?_)
                   clear hK K
                   refine nm_ (some 80) ?_
                   refine on_ HT_ 8 (some 82) (bv_ 15 4607) (fun K hK => ?_)
                   refine gs_ Try.func124 #[.int .i64 a0, .agg #[.int .i64 t458, .int .i64 t459, .int .i64 t460, .int .i64 t461], .agg #[.int .i64 x457000_2, .int .i64 x457001_2, .int .i64 x457002_2, .bool x457003_2]] ?_
                   with_reducible refine (impl_moveSide.calls k2 a0 t458 t459 t460 t461 x457000_2 x457001_2 x457002_2 x457003_2 t462 t463 t464 t465 true _ A34.out).mono ?_
                   rintro e w39 ⟨rfl, hb⟩
                   refine ⟨_, rfl, ?_⟩
                   replace BK446 := bb_ BK446 hb
                   replace BK456 := bb_ BK456 hb
                   replace BK467 := bb_ BK467 hb
                   replace HB := bt_ HB hb
                   (try clear hb)
                   (try clear hb2)
                   (try clear hk)
                   (try clear hi)
                   refine hK.out _ _ ⟨cz_ BK456 0, cz_ BK456 1, cz_ BK456 2, cz_ BK456 3, (clTr HB.out hw457_0 :)⟩ (fun hHeld => ?_)
                   clear hK K
                   refine nm_ (some 82) ?_
                   refine pu_ HT_ 9 (some 73) (bv_ 15 5119) ?_
                   refine pu_ HT_ 10 (some 83) (bv_ 15 6143) ?_
                   refine pu_ HT_ 11 (some 84) (bv_ 15 8191) ?_
                   exact norm_ (by simp only [putAll, Act.put, lstS, lstZ, lstC]) (hCont (gb467) _ ⟨hHeld, (bl_ BK446).out, (bl_ BK456).out, (bl_ BK467).out, GW467.out, GE467.out, NB446_467.out, NB467_446.out, NB456_467.out, NB467_456.out, (bw_ HB).out⟩)
                 rintro gb467 w40 ⟨hS_, h0_, h1_, h2_, h3_, h4_, h5_, h6_, h7_, h8_, h9_⟩
                 have n0_ : Aside0 (w40.heap[gb446]? = some (.cells #[.int .i64 x447000_2, .int .i64 x447001_2, .int .i64 x447002_2, .bool x447003_2] 59 (0, 0))) := ⟨h0_⟩
                 have n1_ : Aside0 (w40.heap[gb456]? = some (.cells #[.int .i64 x457000_2, .int .i64 x457001_2, .int .i64 x457002_2, .bool x457003_2] 59 (0, 0))) := ⟨h1_⟩
                 have n2_ : Aside0 (w40.heap[gb467]? = some (.cells #[.int .i64 0, .int .i64 0, .int .i64 0, .bool false] 59 (0, 0))) := ⟨h2_⟩
                 have n3_ : Aside0 (w.heap.size ≤ gb467) := ⟨h3_⟩
                 have n4_ : Aside0 (w.heap.size ≤ gb467) := ⟨h4_⟩
                 have n5_ : Aside0 (gb446 ≠ gb467) := ⟨h5_⟩
                 have n6_ : Aside0 (gb467 ≠ gb446) := ⟨h6_⟩
                 have n7_ : Aside0 (gb456 ≠ gb467) := ⟨h7_⟩
                 have n8_ : Aside0 (gb467 ≠ gb456) := ⟨h8_⟩
                 have n9_ : Aside0 (Below w.heap.size w w40) := ⟨h9_⟩
                 clear BK446
                 clear BK456
                 clear HB
                 clear h0_ h1_ h2_ h3_ h4_ h5_ h6_ h7_ h8_ h9_
                 have BK446 := n0_
                 have BK456 := n1_
                 have BK467 := n2_
                 have GW467 := n3_
                 have GE467 := n4_
                 have NB446_467 := n5_
                 have NB467_446 := n6_
                 have NB456_467 := n7_
                 have NB467_456 := n8_
                 have HB := n9_
                 clear n0_ n1_ n2_ n3_ n4_ n5_ n6_ n7_ n8_ n9_
                 have hHeld : w40.cell? ⟨gb456, 0, none⟩ = some (.int .i64 x457000_2) ∧ w40.cell? ⟨gb456, 1, none⟩ = some (.int .i64 x457001_2) ∧ w40.cell? ⟨gb456, 2, none⟩ = some (.int .i64 x457002_2) ∧ w40.cell? ⟨gb456, 3, none⟩ = some (.bool x457003_2) ∧ w40.cell? (ad451.add (x14_2).toNat) = some (.int .i64 (rd l3 x14_2)) := hS_
                 refine norm_ (a' := ?_) ?_ ?_
                 rotate_left
                 ·simp only [putAll, Act.put, lstS, lstZ, lstC]
                  rfl
                 refine on_ HT_ 13 none (bv_ 15 16383) (fun K hK => ?_)
                 have hs41 : w40.cell? ⟨gb467, 0, none⟩ = some (.int .i64 0) := (blk_cell BK467.out 0).trans rfl
                 have hfs41 := blk_frozen BK467.out 0
                 have hns41_0 := NB446_467.out
                 have hns41_1 := NB456_467.out
                 have hms41_0 := NB467_446.out
                 have hms41_1 := NB467_456.out
                 have hs42 : w40.cell? ⟨gb467, 1, none⟩ = some (.int .i64 0) := (blk_cell BK467.out 1).trans rfl
                 have hfs42 := blk_frozen BK467.out 1
                 have hns42_0 := NB446_467.out
                 have hns42_1 := NB456_467.out
                 have hms42_0 := NB467_446.out
                 have hms42_1 := NB467_456.out
                 have hs43 : w40.cell? ⟨gb467, 2, none⟩ = some (.int .i64 0) := (blk_cell BK467.out 2).trans rfl
                 have hfs43 := blk_frozen BK467.out 2
                 have hns43_0 := NB446_467.out
                 have hns43_1 := NB456_467.out
                 have hms43_0 := NB467_446.out
                 have hms43_1 := NB467_456.out
                 have hs44 : w40.cell? ⟨gb467, 3, none⟩ = some (.bool false) := (blk_cell BK467.out 3).trans rfl
                 have hfs44 := blk_frozen BK467.out 3
                 have hns44_0 := NB446_467.out
                 have hns44_1 := NB456_467.out
                 have hms44_0 := NB467_446.out
                 have hms44_1 := NB467_456.out
                 refine skip_ (w1 := ?_) (by rfl) rfl ?_ ?_
                 rotate_left
                 ·go_simp
                  rfl
                 refine hK.out _ _ ⟨(cg_ NB456_467 ((cg_ NB456_467 ((cg_ NB456_467 ((cg_ NB456_467 (hHeld.1)))))))), (cg_ NB456_467 ((cg_ NB456_467 ((cg_ NB456_467 ((cg_ NB456_467 (hHeld.2.1)))))))), (cg_ NB456_467 ((cg_ NB456_467 ((cg_ NB456_467 ((cg_ NB456_467 (hHeld.2.2.1)))))))), (cg_ NB456_467 ((cg_ NB456_467 ((cg_ NB456_467 ((cg_ NB456_467 (hHeld.2.2.2.1)))))))), (cf_ hw457_0 GW467 ((cf_ hw457_0 GW467 ((cf_ hw457_0 GW467 ((cf_ hw457_0 GW467 (hHeld.2.2.2.2))))))))⟩ (fun hHeld => ?_)
                 clear hK K
                 refine pu_ HT_ 14 (some 16) (bv_ 15 32767) ?_
                 refine done_ (done_of HT_.out (by kernel_rfl)) ?_
                 have hnb45 := NB467_446.out
                 have hnc45 := NB446_467.out
                 have hnb46 := NB467_456.out
                 have hnc46 := NB456_467.out
                 obtain ⟨hcz47_0, hcz47_1, hcz47_2, hcz47_3, hfz47_0, hfz47_1, hfz47_2, hfz47_3⟩ := ch4_ BK467
                 have hnb48 := NB456_446.out
                 have hnc48 := NB446_456.out
                 obtain ⟨hcz49_0, hcz49_1, hcz49_2, hcz49_3, hfz49_0, hfz49_1, hfz49_2, hfz49_3⟩ := ch4_ BK456
                 try go_wp2
                 go_roundg k2
                 case measure => have := HJ5.out; have := HK2.out; omega
                 case rel => exact ⟨(wrap64 (x14_2 - 1)), (x447000_2), (x447001_2), (x447002_2), (x447003_2), (t462), (t463), (t464), (t465), en_, H', ⟨by have := HJ5.out; have := HK2.out; omega⟩, bp_ BK446, bp_ BK456, bw_ HB⟩
                ·replace c35 := Bool.eq_false_iff.mpr c35
                 subst c35
                 have H1 : (some (0, 0, 0, false, 3)) = some (r1, r2, r3, r4, r5) := by rw [if_neg (show ¬ (false = true) by decide)] at H; exact H
                 clear H
                 have H := H1
                 clear H1
                 simp only [Option.some.injEq, Prod.mk.injEq] at H
                 obtain ⟨rfl, rfl, rfl, rfl, rfl⟩ := H
                 try go_wp2
                 replace BK446 := Aside0.mk (blk_drew BK446.out)
                 replace BK456 := Aside0.mk (blk_drew BK456.out)
                 replace HB := Aside0.mk (below_drew1 HB.out)
                 have p457 : 0 ≤ (x14_2 : Int) := od_
                 have q457 : x14_2 < (l3.length : Int) := od_
                 obtain ⟨ad457, e457, hx457_0⟩ := Kd.at_int HR3.out x14_2 p457 q457
                 have hw457_0 := hx457_0
                 obtain rfl : ad451 = ad457 := (by injection e457)
                 replace hx457_0 := clTr HB.out hx457_0
                 replace p457 := eq_true p457
                 replace q457 := eq_true q457
                 refine start_ (n := 15) (S := fun w' => w'.cell? ⟨gb456, 0, none⟩ = some (.int .i64 x457000_2) ∧ w'.cell? ⟨gb456, 1, none⟩ = some (.int .i64 x457001_2) ∧ w'.cell? ⟨gb456, 2, none⟩ = some (.int .i64 x457002_2) ∧ w'.cell? ⟨gb456, 3, none⟩ = some (.bool x457003_2) ∧ w'.cell? (ad451.add (x14_2).toNat) = some (.int .i64 (rd l3 x14_2))) (ds := []) (bv_ 15 0) (by kernel_rfl) rfl rfl ⟨cz_ BK456 0, cz_ BK456 1, cz_ BK456 2, cz_ BK456 3, (clTr HB.out hw457_0 :)⟩ (fun hHeld => ?_); refine with_tabW impl_SideOfWord.tab15 impl_SideOfWord.bits15 (fun HT_ HW_ => ?_)
                 generalize wr.drew = w50 at BK446 BK456 HB hx457_0 hHeld ⊢
                 refine pu_ HT_ 0 (some 74) (bv_ 15 1) ?_
                 refine pu_ HT_ 1 (some 75) (bv_ 15 3) ?_
                 refine pu_ HT_ 2 (some 76) (bv_ 15 7) ?_
                 refine pu_ HT_ 3 (some 77) (bv_ 15 15) ?_
                 refine pu_ HT_ 4 (some 78) (bv_ 15 31) ?_
                 refine ta_ HT_ HW_ 5 (some 79) (bv_ 15 63) hHeld ?_ (hy := by rintro w' ⟨s0, s1, s2, s3, s4⟩; go_simp; with_reducible rfl)
                 refine ta_ HT_ HW_ 7 (some 81) (bv_ 15 191) hHeld ?_ (hy := by rintro w' ⟨s0, s1, s2, s3, s4⟩; go_simp; with_reducible rfl)
                 refine join_ (σ := Nat) 2 (bv_ 15 8191) (fun s_ => [(80, .agg #[.int .i64 t458, .int .i64 t459, .int .i64 t460, .int .i64 t461]), (82, .tuple #[.agg #[.int .i64 t462, .int .i64 t463, .int .i64 t464, .bool t465], .bool false]), (15, .pointer (some ⟨s_, 0, none⟩)), (73, .tuple #[.agg #[.int .i64 t462, .int .i64 t463, .int .i64 t464, .bool t465], .bool false]), (83, .agg #[.int .i64 t462, .int .i64 t463, .int .i64 t464, .bool t465]), (84, .bool false)]) (fun s_ w' => (w'.cell? ⟨gb456, 0, none⟩ = some (.int .i64 x457000_2) ∧ w'.cell? ⟨gb456, 1, none⟩ = some (.int .i64 x457001_2) ∧ w'.cell? ⟨gb456, 2, none⟩ = some (.int .i64 x457002_2) ∧ w'.cell? ⟨gb456, 3, none⟩ = some (.bool x457003_2) ∧ w'.cell? (ad451.add (x14_2).toNat) = some (.int .i64 (rd l3 x14_2))) ∧ (w'.heap[gb446]? = some (.cells #[.int .i64 x447000_2, .int .i64 x447001_2, .int .i64 x447002_2, .bool x447003_2] 59 (0, 0))) ∧ (w'.heap[gb456]? = some (.cells #[.int .i64 x457000_2, .int .i64 x457001_2, .int .i64 x457002_2, .bool x457003_2] 59 (0, 0))) ∧ (w'.heap[s_]? = some (.cells #[.int .i64 0, .int .i64 0, .int .i64 0, .bool false] 59 (0, 0))) ∧ (w.heap.size ≤ s_) ∧ (w.heap.size ≤ s_) ∧ (gb446 ≠ s_) ∧ (s_ ≠ gb446) ∧ (gb456 ≠ s_) ∧ (s_ ≠ gb456) ∧ (Below w.heap.size w w')) ?_ ?_
                 rotate_left
                 ·intro hCont
                  refine tw_ HT_ 6 12 (some 80) (some 15) (bv_ 15 255) (bv_ 15 4287) (fun K hK => ?_) (fun K hK => ?_)
                  ·skip
                   refine gs_ Try.func125 #[.slice A1 l1.length c1, .int .i64 (rd l3 x14_2)] ?_
                   with_reducible refine (impl_letterMatrix.calls k2 _ _ l1 (rd l3 x14_2) t458 t459 t460 t461 _ ?side1 ?side2 A33.out).mono ?_
                   (case side1 => exact ca_ (Kd.C_below HR1.out HB.out))
                   (case side2 => exact HC1.out)
                   rintro e w51 ⟨rfl, hb⟩
                   refine ⟨_, rfl, ?_⟩
                   replace BK446 := bb_ BK446 hb
                   replace BK456 := bb_ BK456 hb
                   replace HB := bt_ HB hb
                   (try clear hb)
                   (try clear hb2)
                   (try clear hk)
                   (try clear hi)
                   refine hK.out _ _ ⟨cz_ BK456 0, cz_ BK456 1, cz_ BK456 2, cz_ BK456 3, (clTr HB.out hw457_0 :)⟩ (fun hHeld => ?_)
                   clear hK K
                   refine nm_ (some 80) ?_
                   refine tw_ HT_ 8 12 (some 82) (some 15) (bv_ 15 511) (bv_ 15 4351) (fun K hK => ?_) (fun K hK => ?_)
                   ·skip
                    refine gs_ Try.func124 #[.int .i64 a0, .agg #[.int .i64 t458, .int .i64 t459, .int .i64 t460, .int .i64 t461], .agg #[.int .i64 x457000_2, .int .i64 x457001_2, .int .i64 x457002_2, .bool x457003_2]] ?_
                    with_reducible refine (impl_moveSide.calls k2 a0 t458 t459 t460 t461 x457000_2 x457001_2 x457002_2 x457003_2 t462 t463 t464 t465 false _ A34.out).mono ?_
                    rintro e w52 ⟨rfl, hb⟩
                    refine ⟨_, rfl, ?_⟩
                    replace BK446 := bb_ BK446 hb
                    replace BK456 := bb_ BK456 hb
                    replace HB := bt_ HB hb
                    (try clear hb)
                    (try clear hb2)
                    (try clear hk)
                    (try clear hi)
                    refine hK.out _ _ ⟨cz_ BK456 0, cz_ BK456 1, cz_ BK456 2, cz_ BK456 3, (clTr HB.out hw457_0 :)⟩ (fun hHeld => ?_)
                    clear hK K
                    refine nm_ (some 82) ?_
                    refine pu_ HT_ 9 (some 73) (bv_ 15 1023) ?_
                    refine pu_ HT_ 10 (some 83) (bv_ 15 2047) ?_
                    refine pu_ HT_ 11 (some 84) (bv_ 15 4095) ?_
                    refine on_ HT_ 12 (some 15) (bv_ 15 8191) (fun K hK => ?_)
                    refine bz_ 15 #[.int .i64 0, .int .i64 0, .int .i64 0, .bool false] 59 ?_
                    intro gb467 hg w53 hbox hb
                    have BK467 := Aside0.mk (hbox)
                    have GW467 := bs_ HB hg
                    have GE467 := bs_ HB hg
                    have NB446_467 := bm_ BK446 hg
                    have NB467_446 := bn_ BK446 hg
                    have NB456_467 := bm_ BK456 hg
                    have NB467_456 := bn_ BK456 hg
                    replace BK446 := bb_ BK446 hb
                    replace BK456 := bb_ BK456 hb
                    replace HB := bt_ HB hb
                    clear hb hbox hg
                    refine hK.out _ _ ⟨cz_ BK456 0, cz_ BK456 1, cz_ BK456 2, cz_ BK456 3, (clTr HB.out hw457_0 :)⟩ (fun hHeld => ?_)
                    clear hK K
                    refine nm_ (some 15) ?_
                    exact norm_ (by simp only [putAll, Act.put, lstS, lstZ, lstC]) (hCont (gb467) _ ⟨hHeld, (bl_ BK446).out, (bl_ BK456).out, (bl_ BK467).out, GW467.out, GE467.out, NB446_467.out, NB467_446.out, NB456_467.out, NB467_456.out, (bw_ HB).out⟩)
                   ·skip
                    refine bz_ 15 #[.int .i64 0, .int .i64 0, .int .i64 0, .bool false] 59 ?_
                    intro gb467 hg w52 hbox hb
                    have BK467 := Aside0.mk (hbox)
                    have GW467 := bs_ HB hg
                    have GE467 := bs_ HB hg
                    have NB446_467 := bm_ BK446 hg
                    have NB467_446 := bn_ BK446 hg
                    have NB456_467 := bm_ BK456 hg
                    have NB467_456 := bn_ BK456 hg
                    replace BK446 := bb_ BK446 hb
                    replace BK456 := bb_ BK456 hb
                    replace HB := bt_ HB hb
                    clear hb hbox hg
                    refine hK.out _ _ ⟨cz_ BK456 0, cz_ BK456 1, cz_ BK456 2, cz_ BK456 3, (clTr HB.out hw457_0 :)⟩ (fun hHeld => ?_)
                    clear hK K
                    refine nm_ (some 15) ?_
                    refine on_ HT_ 8 (some 82) (bv_ 15 4607) (fun K hK => ?_)
                    refine gs_ Try.func124 #[.int .i64 a0, .agg #[.int .i64 t458, .int .i64 t459, .int .i64 t460, .int .i64 t461], .agg #[.int .i64 x457000_2, .int .i64 x457001_2, .int .i64 x457002_2, .bool x457003_2]] ?_
                    with_reducible refine (impl_moveSide.calls k2 a0 t458 t459 t460 t461 x457000_2 x457001_2 x457002_2 x457003_2 t462 t463 t464 t465 false _ A34.out).mono ?_
                    rintro e w53 ⟨rfl, hb⟩
                    refine ⟨_, rfl, ?_⟩
                    replace BK446 := bb_ BK446 hb
                    replace BK456 := bb_ BK456 hb
                    replace BK467 := bb_ BK467 hb
                    replace HB := bt_ HB hb
                    (try clear hb)
                    (try clear hb2)
                    (try clear hk)
                    (try clear hi)
                    refine hK.out _ _ ⟨cz_ BK456 0, cz_ BK456 1, cz_ BK456 2, cz_ BK456 3, (clTr HB.out hw457_0 :)⟩ (fun hHeld => ?_)
                    clear hK K
                    refine nm_ (some 82) ?_
                    refine pu_ HT_ 9 (some 73) (bv_ 15 5119) ?_
                    refine pu_ HT_ 10 (some 83) (bv_ 15 6143) ?_
                    refine pu_ HT_ 11 (some 84) (bv_ 15 8191) ?_
                    exact norm_ (by simp only [putAll, Act.put, lstS, lstZ, lstC]) (hCont (gb467) _ ⟨hHeld, (bl_ BK446).out, (bl_ BK456).out, (bl_ BK467).out, GW467.out, GE467.out, NB446_467.out, NB467_446.out, NB456_467.out, NB467_456.out, (bw_ HB).out⟩)
                  ·skip
                   refine bz_ 15 #[.int .i64 0, .int .i64 0, .int .i64 0, .bool false] 59 ?_
                   intro gb467 hg w51 hbox hb
                   have BK467 := Aside0.mk (hbox)
                   have GW467 := bs_ HB hg
                   have GE467 := bs_ HB hg
                   have NB446_467 := bm_ BK446 hg
                   have NB467_446 := bn_ BK446 hg
                   have NB456_467 := bm_ BK456 hg
                   have NB467_456 := bn_ BK456 hg
                   replace BK446 := bb_ BK446 hb
                   replace BK456 := bb_ BK456 hb
                   replace HB := bt_ HB hb
                   clear hb hbox hg
                   refine hK.out _ _ ⟨cz_ BK456 0, cz_ BK456 1, cz_ BK456 2, cz_ BK456 3, (clTr HB.out hw457_0 :)⟩ (fun hHeld => ?_)
                   clear hK K
                   refine nm_ (some 15) ?_
                   refine on_ HT_ 6 (some 80) (bv_ 15 4351) (fun K hK => ?_)
                   refine gs_ Try.func125 #[.slice A1 l1.length c1, .int .i64 (rd l3 x14_2)] ?_
                   with_reducible refine (impl_letterMatrix.calls k2 _ _ l1 (rd l3 x14_2) t458 t459 t460 t461 _ ?side1 ?side2 A33.out).mono ?_
                   (case side1 => exact ca_ (Kd.C_below HR1.out HB.out))
                   (case side2 => exact HC1.out)
                   rintro e w52 ⟨rfl, hb⟩
                   refine ⟨_, rfl, ?_⟩
                   replace BK446 := bb_ BK446 hb
                   replace BK456 := bb_ BK456 hb
                   replace BK467 := bb_ BK467 hb
                   replace HB := bt_ HB hb
                   (try clear hb)
                   (try clear hb2)
                   (try clear hk)
                   (try clear hi)
                   refine hK.out _ _ ⟨cz_ BK456 0, cz_ BK456 1, cz_ BK456 2, cz_ BK456 3, (clTr HB.out hw457_0 :)⟩ (fun hHeld => ?_)
                   clear hK K
                   refine nm_ (some 80) ?_
                   refine on_ HT_ 8 (some 82) (bv_ 15 4607) (fun K hK => ?_)
                   refine gs_ Try.func124 #[.int .i64 a0, .agg #[.int .i64 t458, .int .i64 t459, .int .i64 t460, .int .i64 t461], .agg #[.int .i64 x457000_2, .int .i64 x457001_2, .int .i64 x457002_2, .bool x457003_2]] ?_
                   with_reducible refine (impl_moveSide.calls k2 a0 t458 t459 t460 t461 x457000_2 x457001_2 x457002_2 x457003_2 t462 t463 t464 t465 false _ A34.out).mono ?_
                   rintro e w53 ⟨rfl, hb⟩
                   refine ⟨_, rfl, ?_⟩
                   replace BK446 := bb_ BK446 hb
                   replace BK456 := bb_ BK456 hb
                   replace BK467 := bb_ BK467 hb
                   replace HB := bt_ HB hb
                   (try clear hb)
                   (try clear hb2)
                   (try clear hk)
                   (try clear hi)
                   refine hK.out _ _ ⟨cz_ BK456 0, cz_ BK456 1, cz_ BK456 2, cz_ BK456 3, (clTr HB.out hw457_0 :)⟩ (fun hHeld => ?_)
                   clear hK K
                   refine nm_ (some 82) ?_
                   refine pu_ HT_ 9 (some 73) (bv_ 15 5119) ?_
                   refine pu_ HT_ 10 (some 83) (bv_ 15 6143) ?_
                   refine pu_ HT_ 11 (some 84) (bv_ 15 8191) ?_
                   exact norm_ (by simp only [putAll, Act.put, lstS, lstZ, lstC]) (hCont (gb467) _ ⟨hHeld, (bl_ BK446).out, (bl_ BK456).out, (bl_ BK467).out, GW467.out, GE467.out, NB446_467.out, NB467_446.out, NB456_467.out, NB467_456.out, (bw_ HB).out⟩)
                 rintro gb467 w54 ⟨hS_, h0_, h1_, h2_, h3_, h4_, h5_, h6_, h7_, h8_, h9_⟩
                 have n0_ : Aside0 (w54.heap[gb446]? = some (.cells #[.int .i64 x447000_2, .int .i64 x447001_2, .int .i64 x447002_2, .bool x447003_2] 59 (0, 0))) := ⟨h0_⟩
                 have n1_ : Aside0 (w54.heap[gb456]? = some (.cells #[.int .i64 x457000_2, .int .i64 x457001_2, .int .i64 x457002_2, .bool x457003_2] 59 (0, 0))) := ⟨h1_⟩
                 have n2_ : Aside0 (w54.heap[gb467]? = some (.cells #[.int .i64 0, .int .i64 0, .int .i64 0, .bool false] 59 (0, 0))) := ⟨h2_⟩
                 have n3_ : Aside0 (w.heap.size ≤ gb467) := ⟨h3_⟩
                 have n4_ : Aside0 (w.heap.size ≤ gb467) := ⟨h4_⟩
                 have n5_ : Aside0 (gb446 ≠ gb467) := ⟨h5_⟩
                 have n6_ : Aside0 (gb467 ≠ gb446) := ⟨h6_⟩
                 have n7_ : Aside0 (gb456 ≠ gb467) := ⟨h7_⟩
                 have n8_ : Aside0 (gb467 ≠ gb456) := ⟨h8_⟩
                 have n9_ : Aside0 (Below w.heap.size w w54) := ⟨h9_⟩
                 clear BK446
                 clear BK456
                 clear HB
                 clear h0_ h1_ h2_ h3_ h4_ h5_ h6_ h7_ h8_ h9_
                 have BK446 := n0_
                 have BK456 := n1_
                 have BK467 := n2_
                 have GW467 := n3_
                 have GE467 := n4_
                 have NB446_467 := n5_
                 have NB467_446 := n6_
                 have NB456_467 := n7_
                 have NB467_456 := n8_
                 have HB := n9_
                 clear n0_ n1_ n2_ n3_ n4_ n5_ n6_ n7_ n8_ n9_
                 have hHeld : w54.cell? ⟨gb456, 0, none⟩ = some (.int .i64 x457000_2) ∧ w54.cell? ⟨gb456, 1, none⟩ = some (.int .i64 x457001_2) ∧ w54.cell? ⟨gb456, 2, none⟩ = some (.int .i64 x457002_2) ∧ w54.cell? ⟨gb456, 3, none⟩ = some (.bool x457003_2) ∧ w54.cell? (ad451.add (x14_2).toNat) = some (.int .i64 (rd l3 x14_2)) := hS_
                 refine norm_ (a' := ?_) ?_ ?_
                 rotate_left
                 ·simp only [putAll, Act.put, lstS, lstZ, lstC]
                  rfl
                 refine on_ HT_ 13 none (bv_ 15 16383) (fun K hK => ?_)
                 have hs55 : w54.cell? ⟨gb467, 0, none⟩ = some (.int .i64 0) := (blk_cell BK467.out 0).trans rfl
                 have hfs55 := blk_frozen BK467.out 0
                 have hns55_0 := NB446_467.out
                 have hns55_1 := NB456_467.out
                 have hms55_0 := NB467_446.out
                 have hms55_1 := NB467_456.out
                 have hs56 : w54.cell? ⟨gb467, 1, none⟩ = some (.int .i64 0) := (blk_cell BK467.out 1).trans rfl
                 have hfs56 := blk_frozen BK467.out 1
                 have hns56_0 := NB446_467.out
                 have hns56_1 := NB456_467.out
                 have hms56_0 := NB467_446.out
                 have hms56_1 := NB467_456.out
                 have hs57 : w54.cell? ⟨gb467, 2, none⟩ = some (.int .i64 0) := (blk_cell BK467.out 2).trans rfl
                 have hfs57 := blk_frozen BK467.out 2
                 have hns57_0 := NB446_467.out
                 have hns57_1 := NB456_467.out
                 have hms57_0 := NB467_446.out
                 have hms57_1 := NB467_456.out
                 have hs58 : w54.cell? ⟨gb467, 3, none⟩ = some (.bool false) := (blk_cell BK467.out 3).trans rfl
                 have hfs58 := blk_frozen BK467.out 3
                 have hns58_0 := NB446_467.out
                 have hns58_1 := NB456_467.out
                 have hms58_0 := NB467_446.out
                 have hms58_1 := NB467_456.out
                 refine skip_ (w1 := ?_) (by rfl) rfl ?_ ?_
                 rotate_left
                 ·go_simp
                  rfl
                 refine hK.out _ _ ⟨(cg_ NB456_467 ((cg_ NB456_467 ((cg_ NB456_467 ((cg_ NB456_467 (hHeld.1)))))))), (cg_ NB456_467 ((cg_ NB456_467 ((cg_ NB456_467 ((cg_ NB456_467 (hHeld.2.1)))))))), (cg_ NB456_467 ((cg_ NB456_467 ((cg_ NB456_467 ((cg_ NB456_467 (hHeld.2.2.1)))))))), (cg_ NB456_467 ((cg_ NB456_467 ((cg_ NB456_467 ((cg_ NB456_467 (hHeld.2.2.2.1)))))))), (cf_ hw457_0 GW467 ((cf_ hw457_0 GW467 ((cf_ hw457_0 GW467 ((cf_ hw457_0 GW467 (hHeld.2.2.2.2))))))))⟩ (fun hHeld => ?_)
                 clear hK K
                 refine pu_ HT_ 14 (some 16) (bv_ 15 32767) ?_
                 refine done_ (done_of HT_.out (by kernel_rfl)) ?_
                 have hnb59 := NB446_456.out
                 have hnc59 := NB456_446.out
                 have hnb60 := NB446_467.out
                 have hnc60 := NB467_446.out
                 obtain ⟨hcz61_0, hcz61_1, hcz61_2, hcz61_3, hfz61_0, hfz61_1, hfz61_2, hfz61_3⟩ := ch4_ BK446
                 try go_wp2
                 refine bodyPost_ret (results_ct rfl _ _ gb446 59 #[.int .i64 0, .int .i64 0, .int .i64 0, .bool false] (0, 0) _ rfl (bp_ BK446).out Try.underlying59 rfl (by kernel_rfl)) rfl ?_
                 exact ⟨by first | rfl | (simp [errW_none, errW_some] <;> rfl) | (simp only [← hji21]; first | rfl | (simp [errW_none, errW_some] <;> rfl)) | (simp [*, errW_none, errW_some] <;> rfl), (bw_ HB).out⟩
               ·rw [if_neg c32] at H
                exact absurd H (by simp)
              ·rw [if_neg c31] at H
               exact absurd H (by simp)
             ·rw [if_neg c30] at H
              have c30b0 : decide (0 ≤ x14_2) = false := decide_eq_false c30
              clear c30
              simp only [Option.some.injEq, Prod.mk.injEq] at H
              obtain ⟨rfl, rfl, rfl, rfl, rfl⟩ := H
              have hnb62 := NB456_446.out
              have hnc62 := NB446_456.out
              obtain ⟨hcz63_0, hcz63_1, hcz63_2, hcz63_3, hfz63_0, hfz63_1, hfz63_2, hfz63_3⟩ := ch4_ BK456
              obtain ⟨hcz64_0, hcz64_1, hcz64_2, hcz64_3, hfz64_0, hfz64_1, hfz64_2, hfz64_3⟩ := ch4_ BK446
              go_wp2
              refine bodyPost_ret (results_ct rfl _ _ gb446 59 #[.int .i64 x457000_2, .int .i64 x457001_2, .int .i64 x457002_2, .bool x457003_2] (0, 0) _ rfl (bp_ BK446).out Try.underlying59 rfl (by kernel_rfl)) rfl ?_
              exact ⟨by first | rfl | (simp [errW_none, errW_some] <;> rfl) | (simp only [← hji21]; first | rfl | (simp [errW_none, errW_some] <;> rfl)) | (simp [*, errW_none, errW_some] <;> rfl), (bw_ HB).out⟩
          ·rw [if_neg c23] at H
           exact absurd H (by simp)
         ·rw [if_neg c22] at H
          exact absurd H (by simp)
       ·replace c17 := Bool.eq_false_iff.mpr c17
        subst c17
        have H1 : (some (0, 0, 0, false, 5)) = some (r1, r2, r3, r4, r5) := by rw [if_neg (show ¬ (false = true) by decide)] at H; exact H
        clear H
        have H := H1
        clear H1
        simp only [Option.some.injEq, Prod.mk.injEq] at H
        obtain ⟨rfl, rfl, rfl, rfl, rfl⟩ := H
        go_wp2_with (first | (refine ge_ 36 Try.func121 #[.int .i64 (l1.length : Int), .slice A3 l3.length c3] ?_; (with_reducible refine (impl_isWord.calls kj5 (l1.length : Int) _ _ l3 true _ ?side1 ?side2 A12.out).mono ?_); (case side1 => exact ca_ (Kd.C_below HR3.out HB.out)); (case side2 => exact HC3.out); rintro e w65 ⟨rfl, hb⟩; refine ⟨_, rfl, ?_⟩; replace BK446 := bb_ BK446 hb; replace HB := bt_ HB hb; (try clear hb); (try clear hb2); (try clear hk); (try clear hi)) | (go_at_call 122; (with_reducible refine (impl_isShort.calls kj5 _ _ l3 false _ ?side1 ?side2 A16.out).mono ?_); (case side1 => exact ca_ (Kd.C_below HR3.out HB.out)); (case side2 => exact HC3.out); rintro e w' ⟨rfl, ⟨nd, rfl⟩⟩; (try (rw [drewN_self w65]; generalize hq_ : World.drewN w65 _ = w65; have n0_ : Aside0 (w65.heap[gb446]? = some (.cells #[.int .i64 0, .int .i64 0, .int .i64 0, .bool false] 59 (0, 0))) := ⟨by rw [← hq_]; exact (bl_ BK446).out⟩; have n1_ : Aside0 (Below w.heap.size w w65) := ⟨by rw [← hq_]; exact (bw_ HB).out⟩; clear BK446 HB hq_; have BK446 := n0_; have HB := n1_; clear n0_ n1_)); obtain ⟨hcz66_0, hcz66_1, hcz66_2, hcz66_3, hfz66_0, hfz66_1, hfz66_2, hfz66_3⟩ := ch4_ BK446))
        refine bodyPost_ret (results_ct rfl _ _ gb446 59 #[.int .i64 0, .int .i64 0, .int .i64 0, .bool false] (0, 0) _ rfl (bp_ BK446).out Try.underlying59 rfl (by kernel_rfl)) rfl ?_
        exact ⟨es_, (bw_ HB).out⟩
      ·replace c15 := Bool.eq_false_iff.mpr c15
       subst c15
       have H1 : (some (0, 0, 0, false, 5)) = some (r1, r2, r3, r4, r5) := by rw [if_neg (show ¬ (false = true) by decide)] at H; exact H
       clear H
       have H := H1
       clear H1
       simp only [Option.some.injEq, Prod.mk.injEq] at H
       obtain ⟨rfl, rfl, rfl, rfl, rfl⟩ := H
       go_wp2_with (first | (refine ge_ 36 Try.func121 #[.int .i64 (l1.length : Int), .slice A3 l3.length c3] ?_; (with_reducible refine (impl_isWord.calls kj5 (l1.length : Int) _ _ l3 true _ ?side1 ?side2 A12.out).mono ?_); (case side1 => exact ca_ (Kd.C_below HR3.out HB.out)); (case side2 => exact HC3.out); rintro e w67 ⟨rfl, hb⟩; refine ⟨_, rfl, ?_⟩; replace BK446 := bb_ BK446 hb; replace HB := bt_ HB hb; (try clear hb); (try clear hb2); (try clear hk); (try clear hi); obtain ⟨hcz68_0, hcz68_1, hcz68_2, hcz68_3, hfz68_0, hfz68_1, hfz68_2, hfz68_3⟩ := ch4_ BK446))
       refine bodyPost_ret (results_ct rfl _ _ gb446 59 #[.int .i64 0, .int .i64 0, .int .i64 0, .bool false] (0, 0) _ rfl (bp_ BK446).out Try.underlying59 rfl (by kernel_rfl)) rfl ?_
       exact ⟨es_, (bw_ HB).out⟩
     ·rw [if_neg c14] at H
      have c14b0 : (t448 == 0) = false := beq_eq_false_iff_ne.mpr c14
      have c14b1 : (t448 != 0) = true := bne_iff_ne.mpr c14
      simp only [Option.some.injEq, Prod.mk.injEq] at H
      obtain ⟨rfl, rfl, rfl, rfl, rfl⟩ := H
      go_wp2_with (first | (refine ge_ 36 Try.func121 #[.int .i64 (l1.length : Int), .slice A3 l3.length c3] ?_; (with_reducible refine (impl_isWord.calls kj5 (l1.length : Int) _ _ l3 true _ ?side1 ?side2 A12.out).mono ?_); (case side1 => exact ca_ (Kd.C_below HR3.out HB.out)); (case side2 => exact HC3.out); rintro e w69 ⟨rfl, hb⟩; refine ⟨_, rfl, ?_⟩; replace BK446 := bb_ BK446 hb; replace HB := bt_ HB hb; (try clear hb); (try clear hb2); (try clear hk); (try clear hi); obtain ⟨hcz70_0, hcz70_1, hcz70_2, hcz70_3, hfz70_0, hfz70_1, hfz70_2, hfz70_3⟩ := ch4_ BK446))
      refine bodyPost_ret (results_ct rfl _ _ gb446 59 #[.int .i64 0, .int .i64 0, .int .i64 0, .bool false] (0, 0) _ rfl (bp_ BK446).out Try.underlying59 rfl (by kernel_rfl)) rfl ?_
      exact ⟨es_, (bw_ HB).out⟩
    ·replace c13 := Bool.eq_false_iff.mpr c13
     subst c13
     have H1 : (some (0, 0, 0, false, 2)) = some (r1, r2, r3, r4, r5) := by rw [if_neg (show ¬ (false = true) by decide)] at H; exact H
     clear H
     have H := H1
     clear H1
     simp only [Option.some.injEq, Prod.mk.injEq] at H
     obtain ⟨rfl, rfl, rfl, rfl, rfl⟩ := H
     go_wp2_with (first | (refine ge_ 36 Try.func121 #[.int .i64 (l1.length : Int), .slice A3 l3.length c3] ?_; (with_reducible refine (impl_isWord.calls kj5 (l1.length : Int) _ _ l3 false _ ?side1 ?side2 A12.out).mono ?_); (case side1 => exact ca_ (Kd.C_below HR3.out HB.out)); (case side2 => exact HC3.out); rintro e w71 ⟨rfl, hb⟩; refine ⟨_, rfl, ?_⟩; replace BK446 := bb_ BK446 hb; replace HB := bt_ HB hb; (try clear hb); (try clear hb2); (try clear hk); (try clear hi); obtain ⟨hcz72_0, hcz72_1, hcz72_2, hcz72_3, hfz72_0, hfz72_1, hfz72_2, hfz72_3⟩ := ch4_ BK446))
     refine bodyPost_ret (results_ct rfl _ _ gb446 59 #[.int .i64 0, .int .i64 0, .int .i64 0, .bool false] (0, 0) _ rfl (bp_ BK446).out Try.underlying59 rfl (by kernel_rfl)) rfl ?_
     exact ⟨es_, (bw_ HB).out⟩
end Go.Proofs.Ytbilincmcnnonaa.QS
