import Derived.Test.YtbilincmcnnonaaQSx8
import Derived.Test.YtbilincmcnnonaaQSx13
import Derived.Test.YtbilincmcnnonaaQSx18
import Derived.Test.YtbilincmcnnonaaQSx19
import Derived.Test.YtbilincmcnnonaaQSx26
import Derived.Test.YtbilincmcnnonaaQSx29
namespace Go.Proofs.Ytbilincmcnnonaa.QS
open Go.RowKit Go.Proofs.YtbilincmcnnonaaW.PrintWords Go.Proofs.YtbilincmcnnonaaW.PrintLast Go.Proofs.YtbilincmcnnonaaW.PrintMore
attribute [local go_sem] isSome_setCell max2_int min2_int max_two min_two max_three min_three max_four min_four
set_option linter.unusedVariables false
set_option linter.unusedSimpArgs false

/-! ### spec_SideOfWord: function 45 -/
mutual
def spec_SideOfWord.j0 : Nat → Int → List (S26) → List (S59) → List Int → Bool → Option (Int × Int × Int × Bool × Int)
 | 0, _, _, _, _, _ => none
 | k + 1, x0, x1, x2, x3, x45 => if x45 = true then (some (0, 0, 0, false, 5)) else (if 0 ≤ (wrap64 ((x3.length : Int) - 1)) then (if (wrap64 ((x3.length : Int) - 1)) < (x3.length : Int) then ((spec_l09Of.f x2 (rd x3 (wrap64 ((x3.length : Int) - 1)))).bind fun bt230 => (spec_SideOfWord.l0 k x0 x1 x3 (wrap64 ((x3.length : Int) - 2)) bt230.1 bt230.2.1 bt230.2.2.1 bt230.2.2.2)) else (none)) else (none))
def spec_SideOfWord.l0 : Nat → Int → List (S26) → List Int → Int → Int → Int → Int → Bool → Option (Int × Int × Int × Bool × Int)
 | 0, _, _, _, _, _, _, _, _ => none
 | k + 1, x0, x1, x3, x13, x235000, x235001, x235002, x235003 => if x13 ≥ 0 then (if 0 ≤ x13 then (if x13 < (x3.length : Int) then ((spec_l09Letter.f k x1 (rd x3 x13)).bind fun bt236 => ((spec_l09Move.f k x0 bt236.1 bt236.2.1 bt236.2.2.1 bt236.2.2.2 x235000 x235001 x235002 x235003).bind fun bt240 => (if bt240.2.2.2.2 = true then (spec_SideOfWord.l0 k x0 x1 x3 (wrap64 (x13 - 1)) bt240.1 bt240.2.1 bt240.2.2.1 bt240.2.2.2.1) else (some (0, 0, 0, false, 3))))) else (none)) else (none)) else (some (x235000, x235001, x235002, x235003, 0))
end
def spec_SideOfWord.f (k : Nat) (a0 : Int) (l1 : List (S26)) (l2 : List (S59)) (l3 : List Int) : Option (Int × Int × Int × Bool × Int) := (spec_l09List.f k a0 l1 l2).bind fun t225 => (if t225 = 0 then ((spec_l09Word.f k (l1.length : Int) l3).bind fun t226 => (if t226 = true then ((spec_l09Ready.f k a0 l1 l2).bind fun t227 => (if t227 = 0 then (if (l3.length : Int) = 0 then (spec_SideOfWord.j0 k a0 l1 l2 l3 true) else ((spec_l09Short.f k l3).bind fun t228 => (spec_SideOfWord.j0 k a0 l1 l2 l3 (!t228)))) else (some (0, 0, 0, false, t227)))) else (some (0, 0, 0, false, 2)))) else (some (0, 0, 0, false, t225)))
def spec_SideOfWord.T15 : Bool × List (List Nat × List Nat) := (true, [([], []), ([], []), ([], []), ([], []), ([2, 3], [2, 3]), ([4], [4]), ([1, 5], [1, 5]), ([], []), ([0, 6, 7, 6], [0, 6, 7]), ([8], [8]), ([9], [9]), ([9], [9]), ([], []), ([12, 10, 8, 0, 1, 2, 3, 4, 5, 6, 7, 8, 9, 10, 12], [10, 12]), ([11, 13, 0, 1, 2, 3, 4, 5, 6, 7, 8, 9, 10, 11, 12, 13], [11])])
def spec_SideOfWord.B15 : List Nat := [0, 0, 0, 0, 12, 28, 62, 0, 255, 511, 1023, 1023, 0, 6143, 16383]
theorem spec_SideOfWord.tab15 : rtab .any (opsOf Try.f45 15) = spec_SideOfWord.T15 := by kernel_rfl
theorem spec_SideOfWord.bits15 : waitsOk spec_SideOfWord.T15.2 spec_SideOfWord.B15 = true := by kernel_rfl
set_option maxHeartbeats 8000000 in
set_option maxRecDepth 100000 in
theorem spec_SideOfWord.calls (k : Nat) (a0 : Int) (A1 : Option Addr) (c1 : Nat) (l1 : List (S26)) (A2 : Option Addr) (c2 : Nat) (l2 : List (S59)) (A3 : Option Addr) (c3 : Nat) (l3 : List Int) (r1 : Int) (r2 : Int) (r3 : Int) (r4 : Bool) (r5 : Int) (w : World) (hr1 : Kd.C k26 w A1 l1.length l1) (hc1 : l1.length ≤ c1) (hr2 : Kd.C k59 w A2 l2.length l2) (hc2 : l2.length ≤ c2) (hr3 : Kd.C (Kd.int .i64) w A3 l3.length l3) (hc3 : l3.length ≤ c3) (h : spec_SideOfWord.f k a0 l1 l2 l3 = some (r1, r2, r3, r4, r5)) :
  Calls Try.prog 45 #[.int .i64 a0, .slice A1 l1.length c1, .slice A2 l2.length c2, .slice A3 l3.length c3] w fun e w' => e = .returned (.tuple #[.agg #[.int .i64 r1, .int .i64 r2, .int .i64 r3, .bool r4], .int .i64 r5]) ∧ Below w.heap.size w w' := by
 have hu59 := Try.underlying59
 have HR1 := Aside0.mk hr1
 have HC1 := Aside0.mk hc1
 clear hr1 hc1
 have HR2 := Aside0.mk hr2
 have HC2 := Aside0.mk hc2
 clear hr2 hc2
 have HR3 := Aside0.mk hr3
 have HC3 := Aside0.mk hc3
 clear hr3 hc3
 have HB := Aside0.mk (Below.refl w.heap.size w)
 have H : ((spec_l09List.f k a0 l1 l2).bind fun t225 => (if t225 = 0 then ((spec_l09Word.f k (l1.length : Int) l3).bind fun t226 => (if t226 = true then ((spec_l09Ready.f k a0 l1 l2).bind fun t227 => (if t227 = 0 then (if (l3.length : Int) = 0 then (spec_SideOfWord.j0 k a0 l1 l2 l3 true) else ((spec_l09Short.f k l3).bind fun t228 => (spec_SideOfWord.j0 k a0 l1 l2 l3 (!t228)))) else (some (0, 0, 0, false, t227)))) else (some (0, 0, 0, false, 2)))) else (some (0, 0, 0, false, t225)))) = some (r1, r2, r3, r4, r5) := h
 clear h
 replace H := ob_ H
 obtain ⟨t225, A50, H⟩ := H
 have A5 := Aside0.mk A50
 clear A50
 by_cases c6 : t225 = 0
 ·rw [if_pos c6] at H
  have c6b0 : (t225 == 0) = true := beq_iff_eq.mpr c6
  have c6b1 : (t225 != 0) = false := bne_eq_false_iff_eq.mpr c6
  clear c6
  replace H := ob_ H
  obtain ⟨t226, A70, H⟩ := H
  have A7 := Aside0.mk A70
  clear A70
  by_cases c8 : t226 = true
  ·subst c8
   have H1 : ((spec_l09Ready.f k a0 l1 l2).bind fun t227 => (if t227 = 0 then (if (l3.length : Int) = 0 then (spec_SideOfWord.j0 k a0 l1 l2 l3 true) else ((spec_l09Short.f k l3).bind fun t228 => (spec_SideOfWord.j0 k a0 l1 l2 l3 (!t228)))) else (some (0, 0, 0, false, t227)))) = some (r1, r2, r3, r4, r5) := by rw [if_pos rfl] at H; exact H
   clear H
   have H := H1
   clear H1
   replace H := ob_ H
   obtain ⟨t227, A90, H⟩ := H
   have A9 := Aside0.mk A90
   clear A90
   by_cases c10 : t227 = 0
   ·rw [if_pos c10] at H
    have c10b0 : (t227 == 0) = true := beq_iff_eq.mpr c10
    have c10b1 : (t227 != 0) = false := bne_eq_false_iff_eq.mpr c10
    clear c10
    have HC11 := Aside0.mk H
    clear H
    go_enter Try.func45, Try.ntmps45
    go_upto_region 9 with (first | (refine bx_ 8 #[.int .i64 0, .int .i64 0, .int .i64 0, .bool false] 59 ?_; intro gb224 hg w12 hbox hb; have BK224 := Aside0.mk (hbox); have GW224 := bs_ HB hg; have GE224 := bs_ HB hg; replace HB := bt_ HB hb; clear hb hbox hg) | (refine ge_ 19 Try.func111 #[.int .i64 a0, .slice A1 l1.length c1, .slice A2 l2.length c2] ?_; (with_reducible refine (spec_l09List.calls k a0 _ _ l1 _ _ l2 t225 _ ?side1 ?side2 ?side3 ?side4 A5.out).mono ?_); (case side1 => exact ca_ (Kd.C_below HR1.out HB.out)); (case side2 => exact HC1.out); (case side3 => exact ca_ (Kd.C_below HR2.out HB.out)); (case side4 => exact HC2.out); rintro e w13 ⟨rfl, hb⟩; refine ⟨_, rfl, ?_⟩; replace BK224 := bb_ BK224 hb; replace HB := bt_ HB hb; (try clear hb); (try clear hb2); (try clear hk); (try clear hi)) | (refine ge_ 27 Try.func112 #[.int .i64 (l1.length : Int), .slice A3 l3.length c3] ?_; (with_reducible refine (spec_l09Word.calls k (l1.length : Int) _ _ l3 true _ ?side1 ?side2 A7.out).mono ?_); (case side1 => exact ca_ (Kd.C_below HR3.out HB.out)); (case side2 => exact HC3.out); rintro e w' ⟨rfl, ⟨nd, rfl⟩⟩; refine ⟨_, rfl, ?_⟩) | (refine ge_ 33 Try.func113 #[.int .i64 a0, .slice A1 l1.length c1, .slice A2 l2.length c2] ?_; (with_reducible refine (spec_l09Ready.calls k a0 _ _ l1 _ _ l2 t227 _ ?side1 ?side2 ?side3 ?side4 A9.out).mono ?_); (case side1 => exact ca_ (Kd.C_below HR1.out (bw_ HB).out)); (case side2 => exact HC1.out); (case side3 => exact ca_ (Kd.C_below HR2.out (bw_ HB).out)); (case side4 => exact HC2.out); rintro e w14 ⟨rfl, hb⟩; refine ⟨_, rfl, ?_⟩; replace BK224 := bb_ BK224 hb; replace HB := bt_ HB hb; (try clear hb); (try clear hb2); (try clear hk); (try clear hi)))
    (try simp only [Act.put, lstS, lstZ, lstC])
    go_cut [45] (fun v45 wc => ∃ (kq : Nat) (x45_10 : Bool), v45 = .bool x45_10 ∧ Aside0 (spec_SideOfWord.j0 kq a0 l1 l2 l3 x45_10 = some (r1, r2, r3, r4, r5)) ∧ Aside0 (kq ≤ k) ∧ Aside0 (wc.heap[gb224]? = some (.cells #[.int .i64 0, .int .i64 0, .int .i64 0, .bool false] 59 (0, 0))) ∧ Aside0 (Below w.heap.size w wc))
    case first =>
     have H := HC11.out
     clear HC11
     by_cases c15 : (l3.length : Int) = 0
     ·rw [if_pos c15] at H
      have c15b0 : ((l3.length : Int) == 0) = true := beq_iff_eq.mpr c15
      have c15b1 : ((l3.length : Int) != 0) = false := bne_eq_false_iff_eq.mpr c15
      clear c15
      (first | rw [c15b0] | (simp only [i64_w, i32_w]; rw [c15b0]) | skip)
      have H' := Aside0.mk H
      clear H
      go_wp2
      go_meet
      case rel => exact ⟨_, (true), en_, H', ⟨by first | omega | exact Nat.le_refl _⟩, bl_ BK224, bw_ HB⟩
     ·rw [if_neg c15] at H
      have c15b0 : ((l3.length : Int) == 0) = false := beq_eq_false_iff_ne.mpr c15
      have c15b1 : ((l3.length : Int) != 0) = true := bne_iff_ne.mpr c15
      have c15b2 : ¬ (l3 = []) := fun h_ => c15 (by rw [h_]; rfl)
      (first | rw [c15b0] | (simp only [i64_w, i32_w]; rw [c15b0]) | skip)
      replace H := ob_ H
      obtain ⟨t228, A160, H⟩ := H
      have A16 := Aside0.mk A160
      clear A160
      have H' := Aside0.mk H
      clear H
      go_wp2_with (first | (go_at_call 114; (with_reducible refine (spec_l09Short.calls k _ _ l3 t228 _ ?side1 ?side2 A16.out).mono ?_); (case side1 => exact ca_ (Kd.C_below HR3.out (bw_ HB).out)); (case side2 => exact HC3.out); rintro e w' ⟨rfl, ⟨nd, rfl⟩⟩))
      go_meet
      case rel => exact ⟨_, (!t228), en_, H', ⟨by first | omega | exact Nat.le_refl _⟩, bl_ BK224, bw_ HB⟩
    case rest =>
     clear HC11
     try clear c1
     try clear c2
     try clear p2
     try clear c3
     try clear c4
     try clear c6
     try clear c6b0
     try clear c6b1
     try clear c8
     try clear c10
     try clear c10b0
     try clear c10b1
     try clear c11
     try clear c15
     try clear c15b0
     try clear c15b1
     try clear c15b2
     obtain ⟨kq, x45_10, rfl, HA, HJ10, BK224, HB⟩ := hcut
     cases kq with
     | zero => exact absurd HA.out (by simp [spec_SideOfWord.j0])
     | succ kj10 =>
      have H := HA.out
      clear HA
      simp only [spec_SideOfWord.j0] at H
      by_cases c17 : x45_10 = true
      ·subst c17
       have H1 : (some (0, 0, 0, false, 5)) = some (r1, r2, r3, r4, r5) := by rw [if_pos rfl] at H; exact H
       clear H
       have H := H1
       clear H1
       simp only [Option.some.injEq, Prod.mk.injEq] at H
       obtain ⟨rfl, rfl, rfl, rfl, rfl⟩ := H
       obtain ⟨hcz18_0, hcz18_1, hcz18_2, hcz18_3, hfz18_0, hfz18_1, hfz18_2, hfz18_3⟩ := ch4_ BK224
       go_wp2
       refine bodyPost_ret (results_ct rfl _ _ gb224 59 #[.int .i64 0, .int .i64 0, .int .i64 0, .bool false] (0, 0) _ rfl (bp_ BK224).out Try.underlying59 rfl (by kernel_rfl)) rfl ?_
       exact ⟨es_, (bw_ HB).out⟩
      ·replace c17 := Bool.eq_false_iff.mpr c17
       subst c17
       have H1 : (if 0 ≤ (wrap64 ((l3.length : Int) - 1)) then (if (wrap64 ((l3.length : Int) - 1)) < (l3.length : Int) then ((spec_l09Of.f l2 (rd l3 (wrap64 ((l3.length : Int) - 1)))).bind fun bt230 => (spec_SideOfWord.l0 kj10 a0 l1 l3 (wrap64 ((l3.length : Int) - 2)) bt230.1 bt230.2.1 bt230.2.2.1 bt230.2.2.2)) else (none)) else (none)) = some (r1, r2, r3, r4, r5) := by rw [if_neg (show ¬ (false = true) by decide)] at H; exact H
       clear H
       have H := H1
       clear H1
       obtain ⟨ji19, hji19⟩ : ∃ j_ : Int, (wrap64 ((l3.length : Int) - 1)) = j_ := ⟨_, rfl⟩
       replace H : (if 0 ≤ (ji19) then (if (ji19) < (l3.length : Int) then ((spec_l09Of.f l2 (rd l3 (ji19))).bind fun bt230 => (spec_SideOfWord.l0 kj10 a0 l1 l3 (wrap64 ((l3.length : Int) - 2)) bt230.1 bt230.2.1 bt230.2.2.1 bt230.2.2.2)) else (none)) else (none)) = some (r1, r2, r3, r4, r5) := by first | (rw [hji19] at H; exact H) | (simp only [hji19] at H ⊢; exact H)
       have hji19w : (IntKind.i64.wrap ((l3.length : Int) - 1)) = ji19 := (i64_w _).trans hji19
       by_cases c20 : 0 ≤ (ji19)
       ·rw [if_pos c20] at H
        have c20b0 : decide (0 ≤ (ji19)) = true := decide_eq_true c20
        clear c20
        by_cases c21 : (ji19) < (l3.length : Int)
        ·rw [if_pos c21] at H
         have c21b0 : decide ((ji19) < (l3.length : Int)) = true := decide_eq_true c21
         clear c21
         replace H := ob_ H
         obtain ⟨⟨t230, t231, t232, t233⟩, A220, H⟩ := H
         have A22 := Aside0.mk A220
         clear A220
         have H' := Aside0.mk H
         clear H
         have p229 : 0 ≤ ((ji19) : Int) := od_
         have q229 : (ji19) < (l3.length : Int) := od_
         obtain ⟨ad229, e229, hx229_0⟩ := Kd.at_int HR3.out (ji19) p229 q229
         cases e229
         replace hx229_0 := clTr HB.out hx229_0
         replace p229 := eq_true p229
         replace q229 := eq_true q229
         go_wp2_with (first | (refine ge_ 54 Try.func115 #[.slice A2 l2.length c2, .int .i64 (rd l3 (ji19))] ?_ (hargs := by (try simp only [List.map_toArray, List.map_cons, List.map_nil]); first | done | (simp only [hji19]; rfl) | rfl | (simp only [List.length_drop, List.length_take]; rfl)); (with_reducible refine (spec_l09Of.calls _ _ l2 (rd l3 (ji19)) t230 t231 t232 t233 _ ?side1 ?side2 A22.out).mono ?_); (case side1 => exact ca_ (Kd.C_below HR2.out HB.out)); (case side2 => exact HC2.out); rintro e w23 ⟨rfl, hb⟩; refine ⟨_, rfl, ?_⟩; replace BK224 := bb_ BK224 hb; replace HB := bt_ HB hb; (try clear hb); (try clear hb2); (try clear hk); (try clear hi)) | (refine bx_ 12 #[.int .i64 0, .int .i64 0, .int .i64 0, .bool false] 59 ?_; intro gb234 hg w24 hbox hb; have BK234 := Aside0.mk (hbox); have GW234 := bs_ HB hg; have GE234 := bs_ HB hg; have NB224_234 := bm_ BK224 hg; have NB234_224 := bn_ BK224 hg; replace BK224 := bb_ BK224 hb; replace HB := bt_ HB hb; clear hb hbox hg; have hnb25 := NB234_224.out; have hnc25 := NB224_234.out; obtain ⟨hcz26_0, hcz26_1, hcz26_2, hcz26_3, hfz26_0, hfz26_1, hfz26_2, hfz26_3⟩ := ch4_ BK234))
         go_loopg [13] kj10 (fun kq v13 w' => ∃ (x13_2 : Int) (x225000_2 : Int) (x225001_2 : Int) (x225002_2 : Int) (x225003_2 : Bool) (x235000_2 : Int) (x235001_2 : Int) (x235002_2 : Int) (x235003_2 : Bool), v13 = .int .i64 x13_2 ∧ Aside0 (spec_SideOfWord.l0 kq a0 l1 l3 x13_2 x235000_2 x235001_2 x235002_2 x235003_2 = some (r1, r2, r3, r4, r5)) ∧ Aside0 (kq ≤ kj10) ∧ Aside0 (w'.heap[gb224]? = some (.cells #[.int .i64 x225000_2, .int .i64 x225001_2, .int .i64 x225002_2, .bool x225003_2] 59 (0, 0))) ∧ Aside0 (w'.heap[gb234]? = some (.cells #[.int .i64 x235000_2, .int .i64 x235001_2, .int .i64 x235002_2, .bool x235003_2] 59 (0, 0))) ∧ Aside0 (Below w.heap.size w w'))
         case atStart => exact ⟨(wrap64 ((l3.length : Int) - 2)), (0), (0), (0), (false), (t230), (t231), (t232), (t233), en_, H', ⟨Nat.le_refl _⟩, fl_ BK224 NB224_234, bp_ BK234, bw_ HB⟩
         case round =>
          clear H'
          try clear c1
          try clear c2
          try clear p2
          try clear q2
          try clear hx2
          try clear c3
          try clear c4
          try clear c6
          try clear c6b0
          try clear c6b1
          try clear p6
          try clear c8
          try clear c10
          try clear c10b0
          try clear c10b1
          try clear c11
          try clear c15
          try clear c15b0
          try clear c15b1
          try clear c15b2
          try clear c17
          try clear c20
          try clear c20b0
          try clear c21
          try clear c21b0
          try clear p22
          try clear q22
          try clear hx22
          try clear c25
          try clear hcz18_0 hcz18_1 hcz18_2 hcz18_3
          try clear hcz26_0 hcz26_1 hcz26_2 hcz26_3
          try clear hfz18_0 hfz18_1 hfz18_2 hfz18_3
          try clear hfz26_0 hfz26_1 hfz26_2 hfz26_3
          try clear hx229_0
          try clear p2
          try clear p229
          try clear q229
          obtain ⟨x13_2, x225000_2, x225001_2, x225002_2, x225003_2, x235000_2, x235001_2, x235002_2, x235003_2, rfl, HA, HK2, BK224, BK234, HB⟩ := hrel
          cases gk with
          | zero => exact absurd HA.out (by simp [spec_SideOfWord.l0])
          | succ k2 =>
           have H := HA.out
           clear HA
           simp only [spec_SideOfWord.l0] at H
           by_cases c27 : x13_2 ≥ 0
           ·rw [if_pos c27] at H
            have c27b0 : decide (0 ≤ x13_2) = true := decide_eq_true c27
            clear c27
            by_cases c28 : 0 ≤ x13_2
            ·rw [if_pos c28] at H
             have c28b0 : decide (0 ≤ x13_2) = true := decide_eq_true c28
             clear c28
             by_cases c29 : x13_2 < (l3.length : Int)
             ·rw [if_pos c29] at H
              have c29b0 : decide (x13_2 < (l3.length : Int)) = true := decide_eq_true c29
              clear c29
              replace H := ob_ H
              obtain ⟨⟨t236, t237, t238, t239⟩, A300, H⟩ := H
              have A30 := Aside0.mk A300
              clear A300
              replace H := ob_ H
              obtain ⟨⟨t240, t241, t242, t243, t244⟩, A310, H⟩ := H
              have A31 := Aside0.mk A310
              clear A310
              by_cases c32 : t244 = true
              ·subst c32
               have H1 : (spec_SideOfWord.l0 k2 a0 l1 l3 (wrap64 (x13_2 - 1)) t240 t241 t242 t243) = some (r1, r2, r3, r4, r5) := by rw [if_pos rfl] at H; exact H
               clear H
               have H := H1
               clear H1
               have H' := Aside0.mk H
               clear H
               try go_wp2
               replace BK224 := Aside0.mk (blk_drew BK224.out)
               replace BK234 := Aside0.mk (blk_drew BK234.out)
               replace HB := Aside0.mk (below_drew1 HB.out)
               have p235 : 0 ≤ (x13_2 : Int) := od_
               have q235 : x13_2 < (l3.length : Int) := od_
               obtain ⟨ad235, e235, hx235_0⟩ := Kd.at_int HR3.out x13_2 p235 q235
               have hw235_0 := hx235_0
               obtain rfl : ad229 = ad235 := (by injection e235)
               replace hx235_0 := clTr HB.out hx235_0
               replace p235 := eq_true p235
               replace q235 := eq_true q235
               refine start_ (n := 15) (S := fun w' => w'.cell? ⟨gb234, 0, none⟩ = some (.int .i64 x235000_2) ∧ w'.cell? ⟨gb234, 1, none⟩ = some (.int .i64 x235001_2) ∧ w'.cell? ⟨gb234, 2, none⟩ = some (.int .i64 x235002_2) ∧ w'.cell? ⟨gb234, 3, none⟩ = some (.bool x235003_2) ∧ w'.cell? (ad229.add (x13_2).toNat) = some (.int .i64 (rd l3 x13_2))) (ds := []) (bv_ 15 0) (by kernel_rfl) rfl rfl ⟨cz_ BK234 0, cz_ BK234 1, cz_ BK234 2, cz_ BK234 3, (clTr HB.out hw235_0 :)⟩ (fun hHeld => ?_); refine with_tabW spec_SideOfWord.tab15 spec_SideOfWord.bits15 (fun HT_ HW_ => ?_)
               generalize wr.drew = w33 at BK224 BK234 HB hx235_0 hHeld ⊢
               refine pu_ HT_ 0 (some 63) (bv_ 15 1) ?_
               refine pu_ HT_ 1 (some 64) (bv_ 15 3) ?_
               refine pu_ HT_ 2 (some 65) (bv_ 15 7) ?_
               refine pu_ HT_ 3 (some 66) (bv_ 15 15) ?_
               refine pu_ HT_ 4 (some 67) (bv_ 15 31) ?_
               refine ta_ HT_ HW_ 5 (some 68) (bv_ 15 63) hHeld ?_ (hy := by rintro w' ⟨s0, s1, s2, s3, s4⟩; go_simp; with_reducible rfl)
               refine ta_ HT_ HW_ 7 (some 70) (bv_ 15 191) hHeld ?_ (hy := by rintro w' ⟨s0, s1, s2, s3, s4⟩; go_simp; with_reducible rfl)
               refine join_ (σ := Nat) 2 (bv_ 15 8191) (fun s_ => [(69, .agg #[.int .i64 t236, .int .i64 t237, .int .i64 t238, .int .i64 t239]), (71, .tuple #[.agg #[.int .i64 t240, .int .i64 t241, .int .i64 t242, .bool t243], .bool true]), (14, .pointer (some ⟨s_, 0, none⟩)), (62, .tuple #[.agg #[.int .i64 t240, .int .i64 t241, .int .i64 t242, .bool t243], .bool true]), (72, .agg #[.int .i64 t240, .int .i64 t241, .int .i64 t242, .bool t243]), (73, .bool true)]) (fun s_ w' => (w'.cell? ⟨gb234, 0, none⟩ = some (.int .i64 x235000_2) ∧ w'.cell? ⟨gb234, 1, none⟩ = some (.int .i64 x235001_2) ∧ w'.cell? ⟨gb234, 2, none⟩ = some (.int .i64 x235002_2) ∧ w'.cell? ⟨gb234, 3, none⟩ = some (.bool x235003_2) ∧ w'.cell? (ad229.add (x13_2).toNat) = some (.int .i64 (rd l3 x13_2))) ∧ (w'.heap[gb224]? = some (.cells #[.int .i64 x225000_2, .int .i64 x225001_2, .int .i64 x225002_2, .bool x225003_2] 59 (0, 0))) ∧ (w'.heap[gb234]? = some (.cells #[.int .i64 x235000_2, .int .i64 x235001_2, .int .i64 x235002_2, .bool x235003_2] 59 (0, 0))) ∧ (w'.heap[s_]? = some (.cells #[.int .i64 0, .int .i64 0, .int .i64 0, .bool false] 59 (0, 0))) ∧ (w.heap.size ≤ s_) ∧ (w.heap.size ≤ s_) ∧ (gb224 ≠ s_) ∧ (s_ ≠ gb224) ∧ (gb234 ≠ s_) ∧ (s_ ≠ gb234) ∧ (Below w.heap.size w w')) ?_ ?_
               rotate_left
               ·intro hCont
                refine tw_ HT_ 6 12 (some 69) (some 14) (bv_ 15 255) (bv_ 15 4287) (fun K hK => ?_) (fun K hK => ?_)
                ·skip
                 refine gs_ Try.func117 #[.slice A1 l1.length c1, .int .i64 (rd l3 x13_2)] ?_
                 with_reducible refine (spec_l09Letter.calls k2 _ _ l1 (rd l3 x13_2) t236 t237 t238 t239 _ ?side1 ?side2 A30.out).mono ?_
                 (case side1 => exact ca_ (Kd.C_below HR1.out HB.out))
                 (case side2 => exact HC1.out)
                 rintro e w34 ⟨rfl, hb⟩
                 refine ⟨_, rfl, ?_⟩
                 replace BK224 := bb_ BK224 hb
                 replace BK234 := bb_ BK234 hb
                 replace HB := bt_ HB hb
                 (try clear hb)
                 (try clear hb2)
                 (try clear hk)
                 (try clear hi)
                 refine hK.out _ _ ⟨cz_ BK234 0, cz_ BK234 1, cz_ BK234 2, cz_ BK234 3, (clTr HB.out hw235_0 :)⟩ (fun hHeld => ?_)
                 clear hK K
                 refine nm_ (some 69) ?_
                 refine tw_ HT_ 8 12 (some 71) (some 14) (bv_ 15 511) (bv_ 15 4351) (fun K hK => ?_) (fun K hK => ?_)
                 ·skip
                  refine gs_ Try.func116 #[.int .i64 a0, .agg #[.int .i64 t236, .int .i64 t237, .int .i64 t238, .int .i64 t239], .agg #[.int .i64 x235000_2, .int .i64 x235001_2, .int .i64 x235002_2, .bool x235003_2]] ?_
                  with_reducible refine (spec_l09Move.calls k2 a0 t236 t237 t238 t239 x235000_2 x235001_2 x235002_2 x235003_2 t240 t241 t242 t243 true _ A31.out).mono ?_
                  rintro e w35 ⟨rfl, hb⟩
                  refine ⟨_, rfl, ?_⟩
                  replace BK224 := bb_ BK224 hb
                  replace BK234 := bb_ BK234 hb
                  replace HB := bt_ HB hb
                  (try clear hb)
                  (try clear hb2)
                  (try clear hk)
                  (try clear hi)
                  refine hK.out _ _ ⟨cz_ BK234 0, cz_ BK234 1, cz_ BK234 2, cz_ BK234 3, (clTr HB.out hw235_0 :)⟩ (fun hHeld => ?_)
                  clear hK K
                  refine nm_ (some 71) ?_
                  refine pu_ HT_ 9 (some 62) (bv_ 15 1023) ?_
                  refine pu_ HT_ 10 (some 72) (bv_ 15 2047) ?_
                  refine pu_ HT_ 11 (some 73) (bv_ 15 4095) ?_
                  refine on_ HT_ 12 (some 14) (bv_ 15 8191) (fun K hK => ?_)
                  refine bz_ 14 #[.int .i64 0, .int .i64 0, .int .i64 0, .bool false] 59 ?_
                  intro gb245 hg w36 hbox hb
                  have BK245 := Aside0.mk (hbox)
                  have GW245 := bs_ HB hg
                  have GE245 := bs_ HB hg
                  have NB224_245 := bm_ BK224 hg
                  have NB245_224 := bn_ BK224 hg
                  have NB234_245 := bm_ BK234 hg
                  have NB245_234 := bn_ BK234 hg
                  replace BK224 := bb_ BK224 hb
                  replace BK234 := bb_ BK234 hb
                  replace HB := bt_ HB hb
                  clear hb hbox hg
                  refine hK.out _ _ ⟨cz_ BK234 0, cz_ BK234 1, cz_ BK234 2, cz_ BK234 3, (clTr HB.out hw235_0 :)⟩ (fun hHeld => ?_)
                  clear hK K
                  refine nm_ (some 14) ?_
                  exact norm_ (by simp only [putAll, Act.put, lstS, lstZ, lstC]) (hCont (gb245) _ ⟨hHeld, (bl_ BK224).out, (bl_ BK234).out, (bl_ BK245).out, GW245.out, GE245.out, NB224_245.out, NB245_224.out, NB234_245.out, NB245_234.out, (bw_ HB).out⟩)
                 ·skip
                  refine bz_ 14 #[.int .i64 0, .int .i64 0, .int .i64 0, .bool false] 59 ?_
                  intro gb245 hg w35 hbox hb
                  have BK245 := Aside0.mk (hbox)
                  have GW245 := bs_ HB hg
                  have GE245 := bs_ HB hg
                  have NB224_245 := bm_ BK224 hg
                  have NB245_224 := bn_ BK224 hg
                  have NB234_245 := bm_ BK234 hg
                  have NB245_234 := bn_ BK234 hg
                  replace BK224 := bb_ BK224 hb
                  replace BK234 := bb_ BK234 hb
                  replace HB := bt_ HB hb
                  clear hb hbox hg
                  refine hK.out _ _ ⟨cz_ BK234 0, cz_ BK234 1, cz_ BK234 2, cz_ BK234 3, (clTr HB.out hw235_0 :)⟩ (fun hHeld => ?_)
                  clear hK K
                  refine nm_ (some 14) ?_
                  refine on_ HT_ 8 (some 71) (bv_ 15 4607) (fun K hK => ?_)
                  refine gs_ Try.func116 #[.int .i64 a0, .agg #[.int .i64 t236, .int .i64 t237, .int .i64 t238, .int .i64 t239], .agg #[.int .i64 x235000_2, .int .i64 x235001_2, .int .i64 x235002_2, .bool x235003_2]] ?_
                  with_reducible refine (spec_l09Move.calls k2 a0 t236 t237 t238 t239 x235000_2 x235001_2 x235002_2 x235003_2 t240 t241 t242 t243 true _ A31.out).mono ?_
                  rintro e w36 ⟨rfl, hb⟩
                  refine ⟨_, rfl, ?_⟩
                  replace BK224 := bb_ BK224 hb
                  replace BK234 := bb_ BK234 hb
                  replace BK245 := bb_ BK245 hb
                  replace HB := bt_ HB hb
                  (try clear hb)
                  (try clear hb2)
                  (try clear hk)
                  (try clear hi)
                  refine hK.out _ _ ⟨cz_ BK234 0, cz_ BK234 1, cz_ BK234 2, cz_ BK234 3, (clTr HB.out hw235_0 :)⟩ (fun hHeld => ?_)
                  clear hK K
                  refine nm_ (some 71) ?_
                  refine pu_ HT_ 9 (some 62) (bv_ 15 5119) ?_
                  refine pu_ HT_ 10 (some 72) (bv_ 15 6143) ?_
                  refine pu_ HT_ 11 (some 73) (bv_ 15 8191) ?_
                  exact norm_ (by simp only [putAll, Act.put, lstS, lstZ, lstC]) (hCont (gb245) _ ⟨hHeld, (bl_ BK224).out, (bl_ BK234).out, (bl_ BK245).out, GW245.out, GE245.out, NB224_245.out, NB245_224.out, NB234_245.out, NB245_234.out, (bw_ HB).out⟩)
                ·skip
                 refine bz_ 14 #[.int .i64 0, .int .i64 0, .int .i64 0, .bool false] 59 ?_
                 intro gb245 hg w34 hbox hb
                 have BK245 := Aside0.mk (hbox)
                 have GW245 := bs_ HB hg
                 have GE245 := bs_ HB hg
                 have NB224_245 := bm_ BK224 hg
                 have NB245_224 := bn_ BK224 hg
                 have NB234_245 := bm_ BK234 hg
                 have NB245_234 := bn_ BK234 hg
                 replace BK224 := bb_ BK224 hb
                 replace BK234 := bb_ BK234 hb
                 replace HB := bt_ HB hb
                 clear hb hbox hg
                 refine hK.out _ _ ⟨cz_ BK234 0, cz_ BK234 1, cz_ BK234 2, cz_ BK234 3, (clTr HB.out hw235_0 :)⟩ (fun hHeld => ?_)
                 clear hK K
                 refine nm_ (some 14) ?_
                 refine on_ HT_ 6 (some 69) (bv_ 15 4351) (fun K hK => ?_)
                 refine gs_ Try.func117 #[.slice A1 l1.length c1, .int .i64 (rd l3 x13_2)] ?_
                 with_reducible refine (spec_l09Letter.calls k2 _ _ l1 (rd l3 x13_2) t236 t237 t238 t239 _ ?side1 ?side2 A30.out).mono ?_
                 (case side1 => exact ca_ (Kd.C_below HR1.out HB.out))
                 (case side2 => exact HC1.out)
                 rintro e w35 ⟨rfl, hb⟩
                 refine ⟨_, rfl, ?_⟩
                 replace BK224 := bb_ BK224 hb
                 replace BK234 := bb_ BK234 hb
                 replace BK245 := bb_ BK245 hb
                 replace HB := bt_ HB hb
                 (try clear hb)
                 (try clear hb2)
                 (try clear hk)
                 (try clear hi)
                 refine hK.out _ _ ⟨cz_ BK234 0, cz_ BK234 1, cz_ BK234 2, cz_ BK234 3, (clTr HB.out hw235_0 :)⟩ (fun hHeld => ?_)
                 clear hK K
                 refine nm_ (some 69) ?_
                 refine on_ HT_ 8 (some 71) (bv_ 15 4607) (fun K hK => ?_)
                 refine gs_ Try.func116 #[.int .i64 a0, .agg #[.int .i64 t236, .int .i64 t237, .int .i64 t238, .int .i64 t239], .agg #[.int .i64 x235000_2, .int .i64 x235001_2, .int .i64 x235002_2, .bool x235003_2]] ?_
                 with_reducible refine (spec_l09Move.calls k2 a0 t236 t237 t238 t239 x235000_2 x235001_2 x235002_2 x235003_2 t240 t241 t242 t243 true _ A31.out).mono ?_
                 rintro e w36 ⟨rfl, hb⟩
                 refine ⟨_, rfl, ?_⟩
                 replace BK224 := bb_ BK224 hb
                 replace BK234 := bb_ BK234 hb
                 replace BK245 := bb_ BK245 hb
                 replace HB := bt_ HB hb
                 (try clear hb)
                 (try clear hb2)
                 (try clear hk)
                 (try clear hi)
                 refine hK.out _ _ ⟨cz_ BK234 0, cz_ BK234 1, cz_ BK234 2, cz_ BK234 3, (clTr HB.out hw235_0 :)⟩ (fun hHeld => ?_)
                 clear hK K
                 refine nm_ (some 71) ?_
                 refine pu_ HT_ 9 (some 62) (bv_ 15 5119) ?_
                 refine pu_ HT_ 10 (some 72) (bv_ 15 6143) ?_
                 refine pu_ HT_ 11 (some 73) (bv_ 15 8191) ?_
                 exact norm_ (by simp only [putAll, Act.put, lstS, lstZ, lstC]) (hCont (gb245) _ ⟨hHeld, (bl_ BK224).out, (bl_ BK234).out, (bl_ BK245).out, GW245.out, GE245.out, NB224_245.out, NB245_224.out, NB234_245.out, NB245_234.out, (bw_ HB).out⟩)
               rintro gb245 w37 ⟨hS_, h0_, h1_, h2_, h3_, h4_, h5_, h6_, h7_, h8_, h9_⟩
               have n0_ : Aside0 (w37.heap[gb224]? = some (.cells #[.int .i64 x225000_2, .int .i64 x225001_2, .int .i64 x225002_2, .bool x225003_2] 59 (0, 0))) := ⟨h0_⟩
               have n1_ : Aside0 (w37.heap[gb234]? = some (.cells #[.int .i64 x235000_2, .int .i64 x235001_2, .int .i64 x235002_2, .bool x235003_2] 59 (0, 0))) := ⟨h1_⟩
               have n2_ : Aside0 (w37.heap[gb245]? = some (.cells #[.int .i64 0, .int .i64 0, .int .i64 0, .bool false] 59 (0, 0))) := ⟨h2_⟩
               have n3_ : Aside0 (w.heap.size ≤ gb245) := ⟨h3_⟩
               have n4_ : Aside0 (w.heap.size ≤ gb245) := ⟨h4_⟩
               have n5_ : Aside0 (gb224 ≠ gb245) := ⟨h5_⟩
               have n6_ : Aside0 (gb245 ≠ gb224) := ⟨h6_⟩
               have n7_ : Aside0 (gb234 ≠ gb245) := ⟨h7_⟩
               have n8_ : Aside0 (gb245 ≠ gb234) := ⟨h8_⟩
               have n9_ : Aside0 (Below w.heap.size w w37) := ⟨h9_⟩
               clear BK224
               clear BK234
               clear HB
               clear h0_ h1_ h2_ h3_ h4_ h5_ h6_ h7_ h8_ h9_
               have BK224 := n0_
               have BK234 := n1_
               have BK245 := n2_
               have GW245 := n3_
               have GE245 := n4_
               have NB224_245 := n5_
               have NB245_224 := n6_
               have NB234_245 := n7_
               have NB245_234 := n8_
               have HB := n9_
               clear n0_ n1_ n2_ n3_ n4_ n5_ n6_ n7_ n8_ n9_
               have hHeld : w37.cell? ⟨gb234, 0, none⟩ = some (.int .i64 x235000_2) ∧ w37.cell? ⟨gb234, 1, none⟩ = some (.int .i64 x235001_2) ∧ w37.cell? ⟨gb234, 2, none⟩ = some (.int .i64 x235002_2) ∧ w37.cell? ⟨gb234, 3, none⟩ = some (.bool x235003_2) ∧ w37.cell? (ad229.add (x13_2).toNat) = some (.int .i64 (rd l3 x13_2)) := hS_
               refine norm_ (a' := ?_) ?_ ?_
               rotate_left
               ·simp only [putAll, Act.put, lstS, lstZ, lstC]
                rfl
               refine on_ HT_ 13 none (bv_ 15 16383) (fun K hK => ?_)
               have hs38 : w37.cell? ⟨gb245, 0, none⟩ = some (.int .i64 0) := (blk_cell BK245.out 0).trans rfl
               have hfs38 := blk_frozen BK245.out 0
               have hns38_0 := NB224_245.out
               have hns38_1 := NB234_245.out
               have hms38_0 := NB245_224.out
               have hms38_1 := NB245_234.out
               have hs39 : w37.cell? ⟨gb245, 1, none⟩ = some (.int .i64 0) := (blk_cell BK245.out 1).trans rfl
               have hfs39 := blk_frozen BK245.out 1
               have hns39_0 := NB224_245.out
               have hns39_1 := NB234_245.out
               have hms39_0 := NB245_224.out
               have hms39_1 := NB245_234.out
               have hs40 : w37.cell? ⟨gb245, 2, none⟩ = some (.int .i64 0) := (blk_cell BK245.out 2).trans rfl
               have hfs40 := blk_frozen BK245.out 2
               have hns40_0 := NB224_245.out
               have hns40_1 := NB234_245.out
               have hms40_0 := NB245_224.out
               have hms40_1 := NB245_234.out
               have hs41 : w37.cell? ⟨gb245, 3, none⟩ = some (.bool false) := (blk_cell BK245.out 3).trans rfl
               have hfs41 := blk_frozen BK245.out 3
               have hns41_0 := NB224_245.out
               have hns41_1 := NB234_245.out
               have hms41_0 := NB245_224.out
               have hms41_1 := NB245_234.out
               refine skip_ (w1 := ?_) (by rfl) rfl ?_ ?_
               rotate_left
               ·go_simp
                rfl
               refine hK.out _ _ ⟨(cg_ NB234_245 ((cg_ NB234_245 ((cg_ NB234_245 ((cg_ NB234_245 (hHeld.1)))))))), (cg_ NB234_245 ((cg_ NB234_245 ((cg_ NB234_245 ((cg_ NB234_245 (hHeld.2.1)))))))), (cg_ NB234_245 ((cg_ NB234_245 ((cg_ NB234_245 ((cg_ NB234_245 (hHeld.2.2.1)))))))), (cg_ NB234_245 ((cg_ NB234_245 ((cg_ NB234_245 ((cg_ NB234_245 (hHeld.2.2.2.1)))))))), (cf_ hw235_0 GW245 ((cf_ hw235_0 GW245 ((cf_ hw235_0 GW245 ((cf_ hw235_0 GW245 (hHeld.2.2.2.2))))))))⟩ (fun hHeld => ?_)
               clear hK K
               refine pu_ HT_ 14 (some 15) (bv_ 15 32767) ?_
               refine done_ (done_of HT_.out (by kernel_rfl)) ?_
               have hnb42 := NB245_224.out
               have hnc42 := NB224_245.out
               have hnb43 := NB245_234.out
               have hnc43 := NB234_245.out
               obtain ⟨hcz44_0, hcz44_1, hcz44_2, hcz44_3, hfz44_0, hfz44_1, hfz44_2, hfz44_3⟩ := ch4_ BK245
               have hnb45 := NB234_224.out
               have hnc45 := NB224_234.out
               obtain ⟨hcz46_0, hcz46_1, hcz46_2, hcz46_3, hfz46_0, hfz46_1, hfz46_2, hfz46_3⟩ := ch4_ BK234
               try go_wp2
               go_roundg k2
               case measure => have := HJ10.out; have := HK2.out; omega
               case rel => exact ⟨(wrap64 (x13_2 - 1)), (x225000_2), (x225001_2), (x225002_2), (x225003_2), (t240), (t241), (t242), (t243), en_, H', ⟨by have := HJ10.out; have := HK2.out; omega⟩, bp_ BK224, bp_ BK234, bw_ HB⟩
              ·replace c32 := Bool.eq_false_iff.mpr c32
               subst c32
               have H1 : (some (0, 0, 0, false, 3)) = some (r1, r2, r3, r4, r5) := by rw [if_neg (show ¬ (false = true) by decide)] at H; exact H
               clear H
               have H := H1
               clear H1
               simp only [Option.some.injEq, Prod.mk.injEq] at H
               obtain ⟨rfl, rfl, rfl, rfl, rfl⟩ := H
               try go_wp2
               replace BK224 := Aside0.mk (blk_drew BK224.out)
               replace BK234 := Aside0.mk (blk_drew BK234.out)
               replace HB := Aside0.mk (below_drew1 HB.out)
               have p235 : 0 ≤ (x13_2 : Int) := od_
               have q235 : x13_2 < (l3.length : Int) := od_
               obtain ⟨ad235, e235, hx235_0⟩ := Kd.at_int HR3.out x13_2 p235 q235
               have hw235_0 := hx235_0
               obtain rfl : ad229 = ad235 := (by injection e235)
               replace hx235_0 := clTr HB.out hx235_0
               replace p235 := eq_true p235
               replace q235 := eq_true q235
               refine start_ (n := 15) (S := fun w' => w'.cell? ⟨gb234, 0, none⟩ = some (.int .i64 x235000_2) ∧ w'.cell? ⟨gb234, 1, none⟩ = some (.int .i64 x235001_2) ∧ w'.cell? ⟨gb234, 2, none⟩ = some (.int .i64 x235002_2) ∧ w'.cell? ⟨gb234, 3, none⟩ = some (.bool x235003_2) ∧ w'.cell? (ad229.add (x13_2).toNat) = some (.int .i64 (rd l3 x13_2))) (ds := []) (bv_ 15 0) (by kernel_rfl) rfl rfl ⟨cz_ BK234 0, cz_ BK234 1, cz_ BK234 2, cz_ BK234 3, (clTr HB.out hw235_0 :)⟩ (fun hHeld => ?_); refine with_tabW spec_SideOfWord.tab15 spec_SideOfWord.bits15 (fun HT_ HW_ => ?_)
               generalize wr.drew = w47 at BK224 BK234 HB hx235_0 hHeld ⊢
               refine pu_ HT_ 0 (some 63) (bv_ 15 1) ?_
               refine pu_ HT_ 1 (some 64) (bv_ 15 3) ?_
               refine pu_ HT_ 2 (some 65) (bv_ 15 7) ?_
               refine pu_ HT_ 3 (some 66) (bv_ 15 15) ?_
               refine pu_ HT_ 4 (some 67) (bv_ 15 31) ?_
               refine ta_ HT_ HW_ 5 (some 68) (bv_ 15 63) hHeld ?_ (hy := by rintro w' ⟨s0, s1, s2, s3, s4⟩; go_simp; with_reducible rfl)
               refine ta_ HT_ HW_ 7 (some 70) (bv_ 15 191) hHeld ?_ (hy := by rintro w' ⟨s0, s1, s2, s3, s4⟩; go_simp; with_reducible rfl)
               refine join_ (σ := Nat) 2 (bv_ 15 8191) (fun s_ => [(69, .agg #[.int .i64 t236, .int .i64 t237, .int .i64 t238, .int .i64 t239]), (71, .tuple #[.agg #[.int .i64 t240, .int .i64 t241, .int .i64 t242, .bool t243], .bool false]), (14, .pointer (some ⟨s_, 0, none⟩)), (62, .tuple #[.agg #[.int .i64 t240, .int .i64 t241, .int .i64 t242, .bool t243], .bool false]), (72, .agg #[.int .i64 t240, .int .i64 t241, .int .i64 t242, .bool t243]), (73, .bool false)]) (fun s_ w' => (w'.cell? ⟨gb234, 0, none⟩ = some (.int .i64 x235000_2) ∧ w'.cell? ⟨gb234, 1, none⟩ = some (.int .i64 x235001_2) ∧ w'.cell? ⟨gb234, 2, none⟩ = some (.int .i64 x235002_2) ∧ w'.cell? ⟨gb234, 3, none⟩ = some (.bool x235003_2) ∧ w'.cell? (ad229.add (x13_2).toNat) = some (.int .i64 (rd l3 x13_2))) ∧ (w'.heap[gb224]? = some (.cells #[.int .i64 x225000_2, .int .i64 x225001_2, .int .i64 x225002_2, .bool x225003_2] 59 (0, 0))) ∧ (w'.heap[gb234]? = some (.cells #[.int .i64 x235000_2, .int .i64 x235001_2, .int .i64 x235002_2, .bool x235003_2] 59 (0, 0))) ∧ (w'.heap[s_]? = some (.cells #[.int .i64 0, .int .i64 0, .int .i64 0, .bool false] 59 (0, 0))) ∧ (w.heap.size ≤ s_) ∧ (w.heap.size ≤ s_) ∧ (gb224 ≠ s_) ∧ (s_ ≠ gb224) ∧ (gb234 ≠ s_) ∧ (s_ ≠ gb234) ∧ (Below w.heap.size w w')) ?_ ?_
               rotate_left
               ·intro hCont
                refine tw_ HT_ 6 12 (some 69) (some 14) (bv_ 15 255) (bv_ 15 4287) (fun K hK => ?_) (fun K hK => ?_)
                ·skip
                 refine gs_ Try.func117 #[.slice A1 l1.length c1, .int .i64 (rd l3 x13_2)] ?_
                 with_reducible refine (spec_l09Letter.calls k2 _ _ l1 (rd l3 x13_2) t236 t237 t238 t239 _ ?side1 ?side2 A30.out).mono ?_
                 (case side1 => exact ca_ (Kd.C_below HR1.out HB.out))
                 (case side2 => exact HC1.out)
                 rintro e w48 ⟨rfl, hb⟩
                 refine ⟨_, rfl, ?_⟩
                 replace BK224 := bb_ BK224 hb
                 replace BK234 := bb_ BK234 hb
                 replace HB := bt_ HB hb
                 (try clear hb)
                 (try clear hb2)
                 (try clear hk)
                 (try clear hi)
                 refine hK.out _ _ ⟨cz_ BK234 0, cz_ BK234 1, cz_ BK234 2, cz_ BK234 3, (clTr HB.out hw235_0 :)⟩ (fun hHeld => ?_)
                 clear hK K
                 refine nm_ (some 69) ?_
                 refine tw_ HT_ 8 12 (some 71) (some 14) (bv_ 15 511) (bv_ 15 4351) (fun K hK => ?_) (fun K hK => ?_)
                 ·skip
                  refine gs_ Try.func116 #[.int .i64 a0, .agg #[.int .i64 t236, .int .i64 t237, .int .i64 t238, .int .i64 t239], .agg #[.int .i64 x235000_2, .int .i64 x235001_2, .int .i64 x235002_2, .bool x235003_2]] ?_
                  with_reducible refine (spec_l09Move.calls k2 a0 t236 t237 t238 t239 x235000_2 x235001_2 x235002_2 x235003_2 t240 t241 t242 t243 false _ A31.out).mono ?_
                  rintro e w49 ⟨rfl, hb⟩
                  refine ⟨_, rfl, ?_⟩
                  replace BK224 := bb_ BK224 hb
                  replace BK234 := bb_ BK234 hb
                  replace HB := bt_ HB hb
                  (try clear hb)
                  (try clear hb2)
                  (try clear hk)
                  (try clear hi)
                  refine hK.out _ _ ⟨cz_ BK234 0, cz_ BK234 1, cz_ BK234 2, cz_ BK234 3, (clTr HB.out hw235_0 :)⟩ (fun hHeld => ?_)
                  clear hK K
                  refine nm_ (some 71) ?_
                  refine pu_ HT_ 9 (some 62) (bv_ 15 1023) ?_
                  refine pu_ HT_ 10 (some 72) (bv_ 15 2047) ?_
                  refine pu_ HT_ 11 (some 73) (bv_ 15 4095) ?_
                  refine on_ HT_ 12 (some 14) (bv_ 15 8191) (fun K hK => ?_)
                  refine bz_ 14 #[.int .i64 0, .int .i64 0, .int .i64 0, .bool false] 59 ?_
                  intro gb245 hg w50 hbox hb
                  have BK245 := Aside0.mk (hbox)
                  have GW245 := bs_ HB hg
                  have GE245 := bs_ HB hg
                  have NB224_245 := bm_ BK224 hg
                  have NB245_224 := bn_ BK224 hg
                  have NB234_245 := bm_ BK234 hg
                  have NB245_234 := bn_ BK234 hg
                  replace BK224 := bb_ BK224 hb
                  replace BK234 := bb_ BK234 hb
                  replace HB := bt_ HB hb
                  clear hb hbox hg
                  refine hK.out _ _ ⟨cz_ BK234 0, cz_ BK234 1, cz_ BK234 2, cz_ BK234 3, (clTr HB.out hw235_0 :)⟩ (fun hHeld => ?_)
                  clear hK K
                  refine nm_ (some 14) ?_
                  exact norm_ (by simp only [putAll, Act.put, lstS, lstZ, lstC]) (hCont (gb245) _ ⟨hHeld, (bl_ BK224).out, (bl_ BK234).out, (bl_ BK245).out, GW245.out, GE245.out, NB224_245.out, NB245_224.out, NB234_245.out, NB245_234.out, (bw_ HB).out⟩)
                 ·skip
                  refine bz_ 14 #[.int .i64 0, .int .i64 0, .int .i64 0, .bool false] 59 ?_
                  intro gb245 hg w49 hbox hb
                  have BK245 := Aside0.mk (hbox)
                  have GW245 := bs_ HB hg
                  have GE245 := bs_ HB hg
                  have NB224_245 := bm_ BK224 hg
                  have NB245_224 := bn_ BK224 hg
                  have NB234_245 := bm_ BK234 hg
                  have NB245_234 := bn_ BK234 hg
                  replace BK224 := bb_ BK224 hb
                  replace BK234 := bb_ BK234 hb
                  replace HB := bt_ HB hb
                  clear hb hbox hg
                  refine hK.out _ _ ⟨cz_ BK234 0, cz_ BK234 1, cz_ BK234 2, cz_ BK234 3, (clTr HB.out hw235_0 :)⟩ (fun hHeld => ?_)
                  clear hK K
                  refine nm_ (some 14) ?_
                  refine on_ HT_ 8 (some 71) (bv_ 15 4607) (fun K hK => ?_)
                  refine gs_ Try.func116 #[.int .i64 a0, .agg #[.int .i64 t236, .int .i64 t237, .int .i64 t238, .int .i64 t239], .agg #[.int .i64 x235000_2, .int .i64 x235001_2, .int .i64 x235002_2, .bool x235003_2]] ?_
                  with_reducible refine (spec_l09Move.calls k2 a0 t236 t237 t238 t239 x235000_2 x235001_2 x235002_2 x235003_2 t240 t241 t242 t243 false _ A31.out).mono ?_
                  rintro e w50 ⟨rfl, hb⟩
                  refine ⟨_, rfl, ?_⟩
                  replace BK224 := bb_ BK224 hb
                  replace BK234 := bb_ BK234 hb
                  replace BK245 := bb_ BK245 hb
                  replace HB := bt_ HB hb
                  (try clear hb)
                  (try clear hb2)
                  (try clear hk)
                  (try clear hi)
                  refine hK.out _ _ ⟨cz_ BK234 0, cz_ BK234 1, cz_ BK234 2, cz_ BK234 3, (clTr HB.out hw235_0 :)⟩ (fun hHeld => ?_)
                  clear hK K
                  refine nm_ (some 71) ?_
                  refine pu_ HT_ 9 (some 62) (bv_ 15 5119) ?_
                  refine pu_ HT_ 10 (some 72) (bv_ 15 6143) ?_
                  refine pu_ HT_ 11 (some 73) (bv_ 15 8191) ?_
                  exact norm_ (by simp only [putAll, Act.put, lstS, lstZ, lstC]) (hCont (gb245) _ ⟨hHeld, (bl_ BK224).out, (bl_ BK234).out, (bl_ BK245).out, GW245.out, GE245.out, NB224_245.out, NB245_224.out, NB234_245.out, NB245_234.out, (bw_ HB).out⟩)
                ·skip
                 refine bz_ 14 #[.int .i64 0, .int .i64 0, .int .i64 0, .bool false] 59 ?_
                 intro gb245 hg w48 hbox hb
                 have BK245 := Aside0.mk (hbox)
                 have GW245 := bs_ HB hg
                 have GE245 := bs_ HB hg
                 have NB224_245 := bm_ BK224 hg
                 have NB245_224 := bn_ BK224 hg
                 have NB234_245 := bm_ BK234 hg
                 have NB245_234 := bn_ BK234 hg
                 replace BK224 := bb_ BK224 hb
                 replace BK234 := bb_ BK234 hb
                 replace HB := bt_ HB hb
                 clear hb hbox hg
                 refine hK.out _ _ ⟨cz_ BK234 0, cz_ BK234 1, cz_ BK234 2, cz_ BK234 3, (clTr HB.out hw235_0 :)⟩ (fun hHeld => ?_)
                 clear hK K
                 refine nm_ (some 14) ?_
                 refine on_ HT_ 6 (some 69) (bv_ 15 4351) (fun K hK => ?_)
                 refine gs_ Try.func117 #[.slice A1 l1.length c1, .int .i64 (rd l3 x13_2)] ?_
                 with_reducible refine (spec_l09Letter.calls k2 _ _ l1 (rd l3 x13_2) t236 t237 t238 t239 _ ?side1 ?side2 A30.out).mono ?_
                 (case side1 => exact ca_ (Kd.C_below HR1.out HB.out))
                 (case side2 => exact HC1.out)
                 rintro e w49 ⟨rfl, hb⟩
                 refine ⟨_, rfl, ?_⟩
                 replace BK224 := bb_ BK224 hb
                 replace BK234 := bb_ BK234 hb
                 replace BK245 := bb_ BK245 hb
                 replace HB := bt_ HB hb
                 (try clear hb)
                 (try clear hb2)
                 (try clear hk)
                 (try clear hi)
                 refine hK.out _ _ ⟨cz_ BK234 0, cz_ BK234 1, cz_ BK234 2, cz_ BK234 3, (clTr HB.out hw235_0 :)⟩ (fun hHeld => ?_)
                 clear hK K
                 refine nm_ (some 69) ?_
                 refine on_ HT_ 8 (some 71) (bv_ 15 4607) (fun K hK => ?_)
                 refine gs_ Try.func116 #[.int .i64 a0, .agg #[.int .i64 t236, .int .i64 t237, .int .i64 t238, .int .i64 t239], .agg #[.int .i64 x235000_2, .int .i64 x235001_2, .int .i64 x235002_2, .bool x235003_2]] ?_
                 with_reducible refine (spec_l09Move.calls k2 a0 t236 t237 t238 t239 x235000_2 x235001_2 x235002_2 x235003_2 t240 t241 t242 t243 false _ A31.out).mono ?_
                 rintro e w50 ⟨rfl, hb⟩
                 refine ⟨_, rfl, ?_⟩
                 replace BK224 := bb_ BK224 hb
                 replace BK234 := bb_ BK234 hb
                 replace BK245 := bb_ BK245 hb
                 replace HB := bt_ HB hb
                 (try clear hb)
                 (try clear hb2)
                 (try clear hk)
                 (try clear hi)
                 refine hK.out _ _ ⟨cz_ BK234 0, cz_ BK234 1, cz_ BK234 2, cz_ BK234 3, (clTr HB.out hw235_0 :)⟩ (fun hHeld => ?_)
                 clear hK K
                 refine nm_ (some 71) ?_
                 refine pu_ HT_ 9 (some 62) (bv_ 15 5119) ?_
                 refine pu_ HT_ 10 (some 72) (bv_ 15 6143) ?_
                 refine pu_ HT_ 11 (some 73) (bv_ 15 8191) ?_
                 exact norm_ (by simp only [putAll, Act.put, lstS, lstZ, lstC]) (hCont (gb245) _ ⟨hHeld, (bl_ BK224).out, (bl_ BK234).out, (bl_ BK245).out, GW245.out, GE245.out, NB224_245.out, NB245_224.out, NB234_245.out, NB245_234.out, (bw_ HB).out⟩)
               rintro gb245 w51 ⟨hS_, h0_, h1_, h2_, h3_, h4_, h5_, h6_, h7_, h8_, h9_⟩
               have n0_ : Aside0 (w51.heap[gb224]? = some (.cells #[.int .i64 x225000_2, .int .i64 x225001_2, .int .i64 x225002_2, .bool x225003_2] 59 (0, 0))) := ⟨h0_⟩
               have n1_ : Aside0 (w51.heap[gb234]? = some (.cells #[.int .i64 x235000_2, .int .i64 x235001_2, .int .i64 x235002_2, .bool x235003_2] 59 (0, 0))) := ⟨h1_⟩
               have n2_ : Aside0 (w51.heap[gb245]? = some (.cells #[.int .i64 0, .int .i64 0, .int .i64 0, .bool false] 59 (0, 0))) := ⟨h2_⟩
               have n3_ : Aside0 (w.heap.size ≤ gb245) := ⟨h3_⟩
               have n4_ : Aside0 (w.heap.size ≤ gb245) := ⟨h4_⟩
               have n5_ : Aside0 (gb224 ≠ gb245) := ⟨h5_⟩
               have n6_ : Aside0 (gb245 ≠ gb224) := ⟨h6_⟩
               have n7_ : Aside0 (gb234 ≠ gb245) := ⟨h7_⟩
               have n8_ : Aside0 (gb245 ≠ gb234) := ⟨h8_⟩
               have n9_ : Aside0 (Below w.heap.size w w51) := ⟨h9_⟩
               clear BK224
               clear BK234
               clear HB
               clear h0_ h1_ h2_ h3_ h4_ h5_ h6_ h7_ h8_ h9_
               have BK224 := n0_
               have BK234 := n1_
               have BK245 := n2_
               have GW245 := n3_
               have GE245 := n4_
               have NB224_245 := n5_
               have NB245_224 := n6_
               have NB234_245 := n7_
               have NB245_234 := n8_
               have HB := n9_
               clear n0_ n1_ n2_ n3_ n4_ n5_ n6_ n7_ n8_ n9_
               have hHeld : w51.cell? ⟨gb234, 0, none⟩ = some (.int .i64 x235000_2) ∧ w51.cell? ⟨gb234, 1, none⟩ = some (.int .i64 x235001_2) ∧ w51.cell? ⟨gb234, 2, none⟩ = some (.int .i64 x235002_2) ∧ w51.cell? ⟨gb234, 3, none⟩ = some (.bool x235003_2) ∧ w51.cell? (ad229.add (x13_2).toNat) = some (.int .i64 (rd l3 x13_2)) := hS_
               refine norm_ (a' := ?_) ?_ ?_
               rotate_left
               ·simp only [putAll, Act.put, lstS, lstZ, lstC]
                rfl
               refine on_ HT_ 13 none (bv_ 15 16383) (fun K hK => ?_)
               have hs52 : w51.cell? ⟨gb245, 0, none⟩ = some (.int .i64 0) := (blk_cell BK245.out 0).trans rfl
               have hfs52 := blk_frozen BK245.out 0
               have hns52_0 := NB224_245.out
               have hns52_1 := NB234_245.out
               have hms52_0 := NB245_224.out
               have hms52_1 := NB245_234.out
               have hs53 : w51.cell? ⟨gb245, 1, none⟩ = some (.int .i64 0) := (blk_cell BK245.out 1).trans rfl
               have hfs53 := blk_frozen BK245.out 1
               have hns53_0 := NB224_245.out
               have hns53_1 := NB234_245.out
               have hms53_0 := NB245_224.out
               have hms53_1 := NB245_234.out
               have hs54 : w51.cell? ⟨gb245, 2, none⟩ = some (.int .i64 0) := (blk_cell BK245.out 2).trans rfl
               have hfs54 := blk_frozen BK245.out 2
               have hns54_0 := NB224_245.out
               have hns54_1 := NB234_245.out
               have hms54_0 := NB245_224.out
               have hms54_1 := NB245_234.out
               have hs55 : w51.cell? ⟨gb245, 3, none⟩ = some (.bool false) := (blk_cell BK245.out 3).trans rfl
               have hfs55 := blk_frozen BK245.out 3
               have hns55_0 := NB224_245.out
               have hns55_1 := NB234_245.out
               have hms55_0 := NB245_224.out
               have hms55_1 := NB245_234.out
               refine skip_ (w1 := ?_) (by rfl) rfl ?_ ?_
               rotate_left
               ·go_simp
                rfl
               refine hK.out _ _ ⟨(cg_ NB234_245 ((cg_ NB234_245 ((cg_ NB234_245 ((cg_ NB234_245 (hHeld.1)))))))), (cg_ NB234_245 ((cg_ NB234_245 ((cg_ NB234_245 ((cg_ NB234_245 (hHeld.2.1)))))))), (cg_ NB234_245 ((cg_ NB234_245 ((cg_ NB234_245 ((cg_ NB234_245 (hHeld.2.2.1)))))))), (cg_ NB234_245 ((cg_ NB234_245 ((cg_ NB234_245 ((cg_ NB234_245 (hHeld.2.2.2.1)))))))), (cf_ hw235_0 GW245 ((cf_ hw235_0 GW245 ((cf_ hw235_0 GW245 ((cf_ hw235_0 GW245 (hHeld.2.2.2.2))))))))⟩ (fun hHeld => ?_)
               clear hK K
               refine pu_ HT_ 14 (some 15) (bv_ 15 32767) ?_
               refine done_ (done_of HT_.out (by kernel_rfl)) ?_
               have hnb56 := NB224_234.out
               have hnc56 := NB234_224.out
               have hnb57 := NB224_245.out
               have hnc57 := NB245_224.out
               obtain ⟨hcz58_0, hcz58_1, hcz58_2, hcz58_3, hfz58_0, hfz58_1, hfz58_2, hfz58_3⟩ := ch4_ BK224
               try go_wp2
               refine bodyPost_ret (results_ct rfl _ _ gb224 59 #[.int .i64 0, .int .i64 0, .int .i64 0, .bool false] (0, 0) _ rfl (bp_ BK224).out Try.underlying59 rfl (by kernel_rfl)) rfl ?_
               exact ⟨by first | rfl | (simp [errW_none, errW_some] <;> rfl) | (simp only [← hji19]; first | rfl | (simp [errW_none, errW_some] <;> rfl)) | (simp [*, errW_none, errW_some] <;> rfl), (bw_ HB).out⟩
             ·rw [if_neg c29] at H
              exact absurd H (by simp)
            ·rw [if_neg c28] at H
             exact absurd H (by simp)
           ·rw [if_neg c27] at H
            have c27b0 : decide (0 ≤ x13_2) = false := decide_eq_false c27
            clear c27
            simp only [Option.some.injEq, Prod.mk.injEq] at H
            obtain ⟨rfl, rfl, rfl, rfl, rfl⟩ := H
            have hnb59 := NB234_224.out
            have hnc59 := NB224_234.out
            obtain ⟨hcz60_0, hcz60_1, hcz60_2, hcz60_3, hfz60_0, hfz60_1, hfz60_2, hfz60_3⟩ := ch4_ BK234
            obtain ⟨hcz61_0, hcz61_1, hcz61_2, hcz61_3, hfz61_0, hfz61_1, hfz61_2, hfz61_3⟩ := ch4_ BK224
            go_wp2
            refine bodyPost_ret (results_ct rfl _ _ gb224 59 #[.int .i64 x235000_2, .int .i64 x235001_2, .int .i64 x235002_2, .bool x235003_2] (0, 0) _ rfl (bp_ BK224).out Try.underlying59 rfl (by kernel_rfl)) rfl ?_
            exact ⟨by first | rfl | (simp [errW_none, errW_some] <;> rfl) | (simp only [← hji19]; first | rfl | (simp [errW_none, errW_some] <;> rfl)) | (simp [*, errW_none, errW_some] <;> rfl), (bw_ HB).out⟩
        ·rw [if_neg c21] at H
         exact absurd H (by simp)
       ·rw [if_neg c20] at H
        exact absurd H (by simp)
   ·rw [if_neg c10] at H
    have c10b0 : (t227 == 0) = false := beq_eq_false_iff_ne.mpr c10
    have c10b1 : (t227 != 0) = true := bne_iff_ne.mpr c10
    simp only [Option.some.injEq, Prod.mk.injEq] at H
    obtain ⟨rfl, rfl, rfl, rfl, rfl⟩ := H
    go_enter Try.func45, Try.ntmps45
    go_wp2_with (first | (refine bx_ 8 #[.int .i64 0, .int .i64 0, .int .i64 0, .bool false] 59 ?_; intro gb224 hg w62 hbox hb; have BK224 := Aside0.mk (hbox); have GW224 := bs_ HB hg; have GE224 := bs_ HB hg; replace HB := bt_ HB hb; clear hb hbox hg) | (refine ge_ 19 Try.func111 #[.int .i64 a0, .slice A1 l1.length c1, .slice A2 l2.length c2] ?_; (with_reducible refine (spec_l09List.calls k a0 _ _ l1 _ _ l2 t225 _ ?side1 ?side2 ?side3 ?side4 A5.out).mono ?_); (case side1 => exact ca_ (Kd.C_below HR1.out HB.out)); (case side2 => exact HC1.out); (case side3 => exact ca_ (Kd.C_below HR2.out HB.out)); (case side4 => exact HC2.out); rintro e w63 ⟨rfl, hb⟩; refine ⟨_, rfl, ?_⟩; replace BK224 := bb_ BK224 hb; replace HB := bt_ HB hb; (try clear hb); (try clear hb2); (try clear hk); (try clear hi)) | (refine ge_ 27 Try.func112 #[.int .i64 (l1.length : Int), .slice A3 l3.length c3] ?_; (with_reducible refine (spec_l09Word.calls k (l1.length : Int) _ _ l3 true _ ?side1 ?side2 A7.out).mono ?_); (case side1 => exact ca_ (Kd.C_below HR3.out HB.out)); (case side2 => exact HC3.out); rintro e w' ⟨rfl, ⟨nd, rfl⟩⟩; refine ⟨_, rfl, ?_⟩; (try (rw [drewN_self w63]; generalize hq_ : World.drewN w63 _ = w63; have n0_ : Aside0 (w63.heap[gb224]? = some (.cells #[.int .i64 0, .int .i64 0, .int .i64 0, .bool false] 59 (0, 0))) := ⟨by rw [← hq_]; exact (bl_ BK224).out⟩; have n1_ : Aside0 (Below w.heap.size w w63) := ⟨by rw [← hq_]; exact (bw_ HB).out⟩; clear BK224 HB hq_; have BK224 := n0_; have HB := n1_; clear n0_ n1_))) | (refine ge_ 33 Try.func113 #[.int .i64 a0, .slice A1 l1.length c1, .slice A2 l2.length c2] ?_; (with_reducible refine (spec_l09Ready.calls k a0 _ _ l1 _ _ l2 t227 _ ?side1 ?side2 ?side3 ?side4 A9.out).mono ?_); (case side1 => exact ca_ (Kd.C_below HR1.out HB.out)); (case side2 => exact HC1.out); (case side3 => exact ca_ (Kd.C_below HR2.out HB.out)); (case side4 => exact HC2.out); rintro e w64 ⟨rfl, hb⟩; refine ⟨_, rfl, ?_⟩; replace BK224 := bb_ BK224 hb; replace HB := bt_ HB hb; (try clear hb); (try clear hb2); (try clear hk); (try clear hi); obtain ⟨hcz65_0, hcz65_1, hcz65_2, hcz65_3, hfz65_0, hfz65_1, hfz65_2, hfz65_3⟩ := ch4_ BK224))
    refine bodyPost_ret (results_ct rfl _ _ gb224 59 #[.int .i64 0, .int .i64 0, .int .i64 0, .bool false] (0, 0) _ rfl (bp_ BK224).out Try.underlying59 rfl (by kernel_rfl)) rfl ?_
    exact ⟨es_, (bw_ HB).out⟩
  ·replace c8 := Bool.eq_false_iff.mpr c8
   subst c8
   have H1 : (some (0, 0, 0, false, 2)) = some (r1, r2, r3, r4, r5) := by rw [if_neg (show ¬ (false = true) by decide)] at H; exact H
   clear H
   have H := H1
   clear H1
   simp only [Option.some.injEq, Prod.mk.injEq] at H
   obtain ⟨rfl, rfl, rfl, rfl, rfl⟩ := H
   go_enter Try.func45, Try.ntmps45
   go_wp2_with (first | (refine bx_ 8 #[.int .i64 0, .int .i64 0, .int .i64 0, .bool false] 59 ?_; intro gb224 hg w66 hbox hb; have BK224 := Aside0.mk (hbox); have GW224 := bs_ HB hg; have GE224 := bs_ HB hg; replace HB := bt_ HB hb; clear hb hbox hg) | (refine ge_ 19 Try.func111 #[.int .i64 a0, .slice A1 l1.length c1, .slice A2 l2.length c2] ?_; (with_reducible refine (spec_l09List.calls k a0 _ _ l1 _ _ l2 t225 _ ?side1 ?side2 ?side3 ?side4 A5.out).mono ?_); (case side1 => exact ca_ (Kd.C_below HR1.out HB.out)); (case side2 => exact HC1.out); (case side3 => exact ca_ (Kd.C_below HR2.out HB.out)); (case side4 => exact HC2.out); rintro e w67 ⟨rfl, hb⟩; refine ⟨_, rfl, ?_⟩; replace BK224 := bb_ BK224 hb; replace HB := bt_ HB hb; (try clear hb); (try clear hb2); (try clear hk); (try clear hi)) | (refine ge_ 27 Try.func112 #[.int .i64 (l1.length : Int), .slice A3 l3.length c3] ?_; (with_reducible refine (spec_l09Word.calls k (l1.length : Int) _ _ l3 false _ ?side1 ?side2 A7.out).mono ?_); (case side1 => exact ca_ (Kd.C_below HR3.out HB.out)); (case side2 => exact HC3.out); rintro e w' ⟨rfl, ⟨nd, rfl⟩⟩; refine ⟨_, rfl, ?_⟩; (try (rw [drewN_self w67]; generalize hq_ : World.drewN w67 _ = w67; have n0_ : Aside0 (w67.heap[gb224]? = some (.cells #[.int .i64 0, .int .i64 0, .int .i64 0, .bool false] 59 (0, 0))) := ⟨by rw [← hq_]; exact (bl_ BK224).out⟩; have n1_ : Aside0 (Below w.heap.size w w67) := ⟨by rw [← hq_]; exact (bw_ HB).out⟩; clear BK224 HB hq_; have BK224 := n0_; have HB := n1_; clear n0_ n1_)); obtain ⟨hcz68_0, hcz68_1, hcz68_2, hcz68_3, hfz68_0, hfz68_1, hfz68_2, hfz68_3⟩ := ch4_ BK224))
   refine bodyPost_ret (results_ct rfl _ _ gb224 59 #[.int .i64 0, .int .i64 0, .int .i64 0, .bool false] (0, 0) _ rfl (bp_ BK224).out Try.underlying59 rfl (by kernel_rfl)) rfl ?_
   exact ⟨es_, (bw_ HB).out⟩
 ·rw [if_neg c6] at H
  have c6b0 : (t225 == 0) = false := beq_eq_false_iff_ne.mpr c6
  have c6b1 : (t225 != 0) = true := bne_iff_ne.mpr c6
  simp only [Option.some.injEq, Prod.mk.injEq] at H
  obtain ⟨rfl, rfl, rfl, rfl, rfl⟩ := H
  go_enter Try.func45, Try.ntmps45
  go_wp2_with (first | (refine bx_ 8 #[.int .i64 0, .int .i64 0, .int .i64 0, .bool false] 59 ?_; intro gb224 hg w69 hbox hb; have BK224 := Aside0.mk (hbox); have GW224 := bs_ HB hg; have GE224 := bs_ HB hg; replace HB := bt_ HB hb; clear hb hbox hg) | (refine ge_ 19 Try.func111 #[.int .i64 a0, .slice A1 l1.length c1, .slice A2 l2.length c2] ?_; (with_reducible refine (spec_l09List.calls k a0 _ _ l1 _ _ l2 t225 _ ?side1 ?side2 ?side3 ?side4 A5.out).mono ?_); (case side1 => exact ca_ (Kd.C_below HR1.out HB.out)); (case side2 => exact HC1.out); (case side3 => exact ca_ (Kd.C_below HR2.out HB.out)); (case side4 => exact HC2.out); rintro e w70 ⟨rfl, hb⟩; refine ⟨_, rfl, ?_⟩; replace BK224 := bb_ BK224 hb; replace HB := bt_ HB hb; (try clear hb); (try clear hb2); (try clear hk); (try clear hi); obtain ⟨hcz71_0, hcz71_1, hcz71_2, hcz71_3, hfz71_0, hfz71_1, hfz71_2, hfz71_3⟩ := ch4_ BK224))
  refine bodyPost_ret (results_ct rfl _ _ gb224 59 #[.int .i64 0, .int .i64 0, .int .i64 0, .bool false] (0, 0) _ rfl (bp_ BK224).out Try.underlying59 rfl (by kernel_rfl)) rfl ?_
  exact ⟨es_, (bw_ HB).out⟩
end Go.Proofs.Ytbilincmcnnonaa.QS
