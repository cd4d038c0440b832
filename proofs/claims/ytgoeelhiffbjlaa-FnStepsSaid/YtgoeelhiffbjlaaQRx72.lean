import Derived.Test.YtgoeelhiffbjlaaQRx8
import Derived.Test.YtgoeelhiffbjlaaQRx22
import Derived.Test.YtgoeelhiffbjlaaQRx33
import Derived.Test.YtgoeelhiffbjlaaQRx46
import Derived.Test.YtgoeelhiffbjlaaQRx50
import Derived.Test.YtgoeelhiffbjlaaQRx51
import Derived.Test.YtgoeelhiffbjlaaQRx54
import Derived.Test.YtgoeelhiffbjlaaQRx61
import Derived.Test.YtgoeelhiffbjlaaQRx64
import Derived.Test.YtgoeelhiffbjlaaQRx71
namespace Go.Proofs.Ytgoeelhiffbjlaa.QR
open Go.RowKit Go.Proofs.YtgoeelhiffbjlaaW.PrintWords Go.Proofs.YtgoeelhiffbjlaaW.PrintLast Go.Proofs.YtgoeelhiffbjlaaW.PrintMore
attribute [local go_sem] isSome_setCell max2_int min2_int max_two min_two max_three min_three max_four min_four
set_option linter.unusedVariables false
set_option linter.unusedSimpArgs false

attribute [local go_sem high] eqA25
/-! ### laws_FnSteps: function 3 -/
mutual
def laws_FnSteps.j0 : Nat → List Int → Int → ByteArray → Int → Bool → Int → Int → Int → Int → Int → Int → Option (Bool)
 | 0, _, _, _, _, _, _, _, _, _, _, _ => none
 | k + 1, x0, x3, x5, x7, x64, x666000, x666001, x666002, x671000, x671001, x671002 => if x64 = true then (none) else ((impl_ReverseSteps.f k x3 x666000 x666001 x666002 x5).bind fun bt676 => ((spec_ReverseSteps.f k x3 x666000 x666001 x666002 x5).bind fun bt678 => (if bt676.2 = bt678.2 then (laws_FnSteps.j1 k x0 x3 x5 x7 bt676.1 bt676.2 (bt676.1.toList != bt678.1.toList) x666000 x666001 x666002 x671000 x671001 x671002) else (laws_FnSteps.j1 k x0 x3 x5 x7 bt676.1 bt676.2 true x666000 x666001 x666002 x671000 x671001 x671002))))
def laws_FnSteps.j1 : Nat → List Int → Int → ByteArray → Int → ByteArray → Int → Bool → Int → Int → Int → Int → Int → Int → Option (Bool)
 | 0, _, _, _, _, _, _, _, _, _, _, _, _, _ => none
 | k + 1, x0, x3, x5, x7, x10, x11, x86, x666000, x666001, x666002, x671000, x671001, x671002 => if x86 = true then (none) else ((impl_NormalSteps.f k x3 x5).bind fun bt680 => ((spec_NormalSteps.f k x3 x5).bind fun bt682 => (if bt680.2 = bt682.2 then (laws_FnSteps.j2 k x0 x3 x7 x10 x11 bt680.1 bt680.2 (bt680.1.toList != bt682.1.toList) x666000 x666001 x666002 x671000 x671001 x671002) else (laws_FnSteps.j2 k x0 x3 x7 x10 x11 bt680.1 bt680.2 true x666000 x666001 x666002 x671000 x671001 x671002))))
def laws_FnSteps.j2 : Nat → List Int → Int → Int → ByteArray → Int → ByteArray → Int → Bool → Int → Int → Int → Int → Int → Int → Option (Bool)
 | 0, _, _, _, _, _, _, _, _, _, _, _, _, _, _ => none
 | k + 1, x0, x3, x7, x10, x11, x14, x15, x106, x666000, x666001, x666002, x671000, x671001, x671002 => if x106 = true then (none) else ((spec_DrawWayWord.f k x0).bind fun bt684 => ((impl_WayWord.f k bt684.1 bt684.2.1 bt684.2.2.1 bt684.2.2.2.1 bt684.2.2.2.2.1 bt684.2.2.2.2.2.1 bt684.2.2.2.2.2.2).bind fun bt693 => ((spec_WayWord.f k bt684.1 bt684.2.1 bt684.2.2.1 bt684.2.2.2.1 bt684.2.2.2.2.1 bt684.2.2.2.2.2.1 bt684.2.2.2.2.2.2).bind fun bt695 => (if bt693.2 = bt695.2 then (laws_FnSteps.j3 k x3 x7 x10 x11 x14 x15 bt684.1 bt693.1 bt693.2 (bt693.1.toList != bt695.1.toList) x666000 x666001 x666002 x671000 x671001 x671002 bt684.2.1 bt684.2.2.1 bt684.2.2.2.1 bt684.2.2.2.2.1 bt684.2.2.2.2.2.1 bt684.2.2.2.2.2.2) else (laws_FnSteps.j3 k x3 x7 x10 x11 x14 x15 bt684.1 bt693.1 bt693.2 true x666000 x666001 x666002 x671000 x671001 x671002 bt684.2.1 bt684.2.2.1 bt684.2.2.2.1 bt684.2.2.2.2.1 bt684.2.2.2.2.2.1 bt684.2.2.2.2.2.2)))))
def laws_FnSteps.j3 : Nat → Int → Int → ByteArray → Int → ByteArray → Int → Int → ByteArray → Int → Bool → Int → Int → Int → Int → Int → Int → Int → Int → Int → Int → Int → Int → Option (Bool)
 | 0, _, _, _, _, _, _, _, _, _, _, _, _, _, _, _, _, _, _, _, _, _, _ => none
 | k + 1, x3, x7, x10, x11, x14, x15, x18, x21, x22, x134, x666000, x666001, x666002, x671000, x671001, x671002, x692000, x692001, x692002, x693000, x693001, x693002 => if x134 = true then (none) else (if x22 = 0 then ((impl_TreeDistance.f k x18 x692000 x692001 x692002 x693000 x693001 x693002).bind fun bt697 => ((impl_FollowSteps.f k x18 x692000 x692001 x692002 x21).bind fun bt699 => (if bt697.2 = 0 then (if (x21.size : Int) = bt697.1 then (if bt699.2.2.2 = 0 then (if (!(bt699.1 == x693000) || (!(bt699.2.1 == x693001) || (!(bt699.2.2.1 == x693002)))) = true then (none) else (laws_FnSteps.j4 k x3 x7 x10 x11 x14 x15 x666000 x666001 x666002 x671000 x671001 x671002)) else (none)) else (none)) else (none)))) else (laws_FnSteps.j4 k x3 x7 x10 x11 x14 x15 x666000 x666001 x666002 x671000 x671001 x671002))
def laws_FnSteps.j4 : Nat → Int → Int → ByteArray → Int → ByteArray → Int → Int → Int → Int → Int → Int → Int → Option (Bool)
 | 0, _, _, _, _, _, _, _, _, _, _, _, _ => none
 | k + 1, x3, x7, x10, x11, x14, x15, x666000, x666001, x666002, x671000, x671001, x671002 => if x7 = 0 then ((impl_FollowSteps.f k x3 x671000 x671001 x671002 x10).bind fun bt704 => (if x11 = 0 then (if bt704.2.2.2 = 0 then (if (!(bt704.1 == x666000) || (!(bt704.2.1 == x666001) || (!(bt704.2.2.1 == x666002)))) = true then (laws_FnSteps.j5 k x3 x14 true x666000 x666001 x666002 x671000 x671001 x671002) else (laws_FnSteps.j5 k x3 x14 (x15 != 0) x666000 x666001 x666002 x671000 x671001 x671002)) else (laws_FnSteps.j5 k x3 x14 true x666000 x666001 x666002 x671000 x671001 x671002)) else (laws_FnSteps.j5 k x3 x14 true x666000 x666001 x666002 x671000 x671001 x671002))) else (if (x671000 == 0 && (x671001 == 0 && (x671002 == 0))) = true then (some (x11 == x7)) else (none))
def laws_FnSteps.j5 : Nat → Int → ByteArray → Bool → Int → Int → Int → Int → Int → Int → Option (Bool)
 | 0, _, _, _, _, _, _, _, _, _ => none
 | k + 1, x3, x14, x199, x666000, x666001, x666002, x671000, x671001, x671002 => if x199 = true then (none) else ((impl_FollowSteps.f k x3 x666000 x666001 x666002 x14).bind fun bt709 => ((impl_NormalSteps.f k x3 x14).bind fun bt714 => (if bt709.2.2.2 = 0 then (if (bt709.1 == x671000 && (bt709.2.1 == x671001 && (bt709.2.2.1 == x671002))) = true then (if bt714.2 = 0 then (some (bt714.1.toList == x14.toList)) else (none)) else (none)) else (if bt714.2 = 0 then (some (bt714.1.toList == x14.toList)) else (none)))))
end
def laws_FnSteps.f (k : Nat) (l0 : List Int) : Option (Bool) := (laws_big.f l0).bind fun t659 => (if t659 = true then (some true) else ((spec_DrawFollowSteps.f k l0).bind fun bt660 => ((impl_FollowSteps.f k bt660.1 bt660.2.1 bt660.2.2.1 bt660.2.2.2.1 bt660.2.2.2.2).bind fun bt666 => ((spec_FollowSteps.f k bt660.1 bt660.2.1 bt660.2.2.1 bt660.2.2.2.1 bt660.2.2.2.2).bind fun bt671 => (if bt666.2.2.2 = bt671.2.2.2 then (laws_FnSteps.j0 k l0 bt660.1 bt660.2.2.2.2 bt666.2.2.2 (!(bt666.1 == bt671.1) || (!(bt666.2.1 == bt671.2.1) || (!(bt666.2.2.1 == bt671.2.2.1)))) bt660.2.1 bt660.2.2.1 bt660.2.2.2.1 bt666.1 bt666.2.1 bt666.2.2.1) else (laws_FnSteps.j0 k l0 bt660.1 bt660.2.2.2.2 bt666.2.2.2 true bt660.2.1 bt660.2.2.1 bt660.2.2.2.1 bt666.1 bt666.2.1 bt666.2.2.1))))))
open Go in
theorem gwS_ {P : Program} {ops : Array Oper} {Q : Exit → Act → World → Prop} {rest : List Oper} {a : Act} {w : World} {p} {v} (h : ∀ w', w' = w.setCell p v → wpList P ops Q rest a w') : wpList P ops Q rest a (w.setCell p v) := h _ rfl
set_option maxHeartbeats 200000000 in
set_option maxRecDepth 100000 in
theorem laws_FnSteps.calls (k : Nat) (A0 : Option Addr) (c0 : Nat) (l0 : List Int) (r : Bool) (w : World) (hr0 : Kd.C (Kd.int .u8) w A0 l0.length l0) (hc0 : l0.length ≤ c0) (h : laws_FnSteps.f k l0 = some r) :
  Calls Try.prog 3 #[.slice A0 l0.length c0] w fun e w' => e = .returned (.bool r) ∧ Below w.heap.size w w' := by
 have hu25 := Try.underlying25
 have HR0 := Aside0.mk hr0
 have HC0 := Aside0.mk hc0
 clear hr0 hc0
 have HB := Aside0.mk (Below.refl w.heap.size w)
 have H : ((laws_big.f l0).bind fun t659 => (if t659 = true then (some true) else ((spec_DrawFollowSteps.f k l0).bind fun bt660 => ((impl_FollowSteps.f k bt660.1 bt660.2.1 bt660.2.2.1 bt660.2.2.2.1 bt660.2.2.2.2).bind fun bt666 => ((spec_FollowSteps.f k bt660.1 bt660.2.1 bt660.2.2.1 bt660.2.2.2.1 bt660.2.2.2.2).bind fun bt671 => (if bt666.2.2.2 = bt671.2.2.2 then (laws_FnSteps.j0 k l0 bt660.1 bt660.2.2.2.2 bt666.2.2.2 (!(bt666.1 == bt671.1) || (!(bt666.2.1 == bt671.2.1) || (!(bt666.2.2.1 == bt671.2.2.1)))) bt660.2.1 bt660.2.2.1 bt660.2.2.2.1 bt666.1 bt666.2.1 bt666.2.2.1) else (laws_FnSteps.j0 k l0 bt660.1 bt660.2.2.2.2 bt666.2.2.2 true bt660.2.1 bt660.2.2.1 bt660.2.2.2.1 bt666.1 bt666.2.1 bt666.2.2.1))))))) = some r := h
 clear h
 replace H := ob_ H
 obtain ⟨t659, A20, H⟩ := H
 have A2 := Aside0.mk A20
 clear A20
 by_cases c3 : t659 = true
 ·subst c3
  have H1 : (some true) = some r := by rw [if_pos rfl] at H; exact H
  clear H
  have H := H1
  clear H1
  obtain rfl := si_ H
  go_enter Try.func3, Try.ntmps3
  go_wp2_with (first | ((refine gc_ 8 ?_); refine ge_ 36 Try.func8 #[.slice A0 l0.length c0] ?_; (with_reducible refine (laws_big.calls _ _ l0 true _ ?side1 ?side2 A2.out).mono ?_); (case side1 => exact ca_ HR0.out); (case side2 => exact HC0.out); rintro e w' ⟨rfl, ⟨nd, rfl⟩⟩; refine ⟨_, rfl, ?_⟩))
  go_ret
  exact ⟨es_, (bw_ HB).out⟩
 ·replace c3 := Bool.eq_false_iff.mpr c3
  subst c3
  have H1 : ((spec_DrawFollowSteps.f k l0).bind fun bt660 => ((impl_FollowSteps.f k bt660.1 bt660.2.1 bt660.2.2.1 bt660.2.2.2.1 bt660.2.2.2.2).bind fun bt666 => ((spec_FollowSteps.f k bt660.1 bt660.2.1 bt660.2.2.1 bt660.2.2.2.1 bt660.2.2.2.2).bind fun bt671 => (if bt666.2.2.2 = bt671.2.2.2 then (laws_FnSteps.j0 k l0 bt660.1 bt660.2.2.2.2 bt666.2.2.2 (!(bt666.1 == bt671.1) || (!(bt666.2.1 == bt671.2.1) || (!(bt666.2.2.1 == bt671.2.2.1)))) bt660.2.1 bt660.2.2.1 bt660.2.2.2.1 bt666.1 bt666.2.1 bt666.2.2.1) else (laws_FnSteps.j0 k l0 bt660.1 bt660.2.2.2.2 bt666.2.2.2 true bt660.2.1 bt660.2.2.1 bt660.2.2.2.1 bt666.1 bt666.2.1 bt666.2.2.1))))) = some r := by rw [if_neg (show ¬ (false = true) by decide)] at H; exact H
  clear H
  have H := H1
  clear H1
  replace H := ob_ H
  obtain ⟨⟨t660, t661, t662, t663, t664⟩, A40, H⟩ := H
  have A4 := Aside0.mk A40
  clear A40
  replace H := ob_ H
  obtain ⟨⟨t666, t667, t668, t669⟩, A50, H⟩ := H
  have A5 := Aside0.mk A50
  clear A50
  replace H := ob_ H
  obtain ⟨⟨t671, t672, t673, t674⟩, A60, H⟩ := H
  have A6 := Aside0.mk A60
  clear A60
  have HC7 := Aside0.mk H
  clear H
  go_enter Try.func3, Try.ntmps3
  go_upto_region 6 with (first | ((refine gc_ 8 ?_); refine ge_ 36 Try.func8 #[.slice A0 l0.length c0] ?_; (with_reducible refine (laws_big.calls _ _ l0 false _ ?side1 ?side2 A2.out).mono ?_); (case side1 => exact ca_ HR0.out); (case side2 => exact HC0.out); rintro e w' ⟨rfl, ⟨nd, rfl⟩⟩; refine ⟨_, rfl, ?_⟩) | ((refine gc_ 9 ?_); refine ge_ 39 Try.func9 #[.slice A0 l0.length c0] ?_; (with_reducible refine (spec_DrawFollowSteps.calls k _ _ l0 t660 t661 t662 t663 t664 _ ?side1 ?side2 A4.out).mono ?_); (case side1 => exact ca_ HR0.out); (case side2 => exact HC0.out); rintro e w8 ⟨rfl, hb⟩; refine ⟨_, rfl, ?_⟩; replace HB := bt_ HB hb; (try clear hb)) | ((refine gd_ 4 ?_); (try (refine gate_guard (by rfl) ?_; dsimp only)); refine bx_ 4 #[.int .i64 0, .int .i64 0, .int .i64 0] 25 ?_; intro gb665 hg w9 BK665 hb; have GW665 := bs_ HB hg; have GE665 := bs_ HB hg; replace HB := bt_ HB hb; clear hb hg; obtain ⟨hcz10_0, hcz10_1, hcz10_2, hfz10_0, hfz10_1, hfz10_2⟩ := ch3_ BK665) | ((refine gc_ 10 ?_); refine ge_ 47 Try.func10 #[.int .i64 t660, .agg #[.int .i64 t661, .int .i64 t662, .int .i64 t663], .string t664] ?_; (with_reducible refine (impl_FollowSteps.calls k t660 t661 t662 t663 t664 t666 t667 t668 t669 _ A5.out).mono ?_); rintro e w11 ⟨rfl, hb⟩; refine ⟨_, rfl, ?_⟩; replace BK665 := Aside0.mk (blk_below (g := gb665) (o := .cells #[.int .i64 t661, .int .i64 t662, .int .i64 t663] 25 (0, 0)) (bp_ BK665).out hb); replace HB := bt_ HB hb; (try clear hb)) | ((refine gd_ 6 ?_); (try (refine gate_guard (by rfl) ?_; dsimp only)); refine bx_ 6 #[.int .i64 0, .int .i64 0, .int .i64 0] 25 ?_; intro gb670 hg w12 BK670 hb; have GW670 := bs_ HB hg; have GE670 := bs_ HB hg; have NB665_670 := bm_ BK665 hg; have NB670_665 := bn_ BK665 hg; replace BK665 := bb_ BK665 hb; replace HB := bt_ HB hb; clear hb hg; have hnb13 := NB670_665.out; have hnc13 := NB665_670.out; obtain ⟨hcz14_0, hcz14_1, hcz14_2, hfz14_0, hfz14_1, hfz14_2⟩ := ch3_ BK670; obtain ⟨hcz15_0, hcz15_1, hcz15_2, hfz15_0, hfz15_1, hfz15_2⟩ := ch3_ BK665) | ((refine gc_ 11 ?_); refine ge_ 54 Try.func11 #[.int .i64 t660, .agg #[.int .i64 t661, .int .i64 t662, .int .i64 t663], .string t664] ?_; (with_reducible refine (spec_FollowSteps.calls k t660 t661 t662 t663 t664 t671 t672 t673 t674 _ A6.out).mono ?_); rintro e w16 ⟨rfl, hb⟩; refine ⟨_, rfl, ?_⟩; replace BK665 := fb_ BK665 NB665_670 hb; replace BK670 := Aside0.mk (blk_below (g := gb670) (o := .cells #[.int .i64 t666, .int .i64 t667, .int .i64 t668] 25 (0, 0)) (bp_ BK670).out hb); replace HB := bt_ HB hb; (try clear hb)) | ((refine gd_ 8 ?_); (try (refine gate_guard (by rfl) ?_; dsimp only)); refine bx_ 8 #[.int .i64 0, .int .i64 0, .int .i64 0] 25 ?_; intro gb675 hg w17 BK675 hb; have GW675 := bs_ HB hg; have GE675 := bs_ HB hg; have NB665_675 := bm_ BK665 hg; have NB675_665 := bn_ BK665 hg; have NB670_675 := bm_ BK670 hg; have NB675_670 := bn_ BK670 hg; replace BK665 := bb_ BK665 hb; replace BK670 := bb_ BK670 hb; replace HB := bt_ HB hb; clear hb hg; have hnb18 := NB675_665.out; have hnc18 := NB665_675.out; have hnb19 := NB675_670.out; have hnc19 := NB670_675.out; obtain ⟨hcz20_0, hcz20_1, hcz20_2, hfz20_0, hfz20_1, hfz20_2⟩ := ch3_ BK675))
  (try simp only [Act.put, lstS, lstZ, lstC])
  go_cut [64] (fun v64 wc => ∃ (kq : Nat) (x64_6 : Bool), v64 = .bool x64_6 ∧ Aside0 (laws_FnSteps.j0 kq l0 t660 t664 t669 x64_6 t661 t662 t663 t666 t667 t668 = some r) ∧ Aside0 (kq ≤ k) ∧ Aside0 (wc.heap[gb665]? = some (.cells #[.int .i64 t661, .int .i64 t662, .int .i64 t663] 25 (0, 0))) ∧ Aside0 (wc.heap[gb670]? = some (.cells #[.int .i64 t666, .int .i64 t667, .int .i64 t668] 25 (0, 0))) ∧ Aside0 (wc.heap[gb675]? = some (.cells #[.int .i64 t671, .int .i64 t672, .int .i64 t673] 25 (0, 0))) ∧ Aside0 (Below w.heap.size w wc))
  case first => as_aux_lemma =>
   have H := HC7.out
   clear HC7
   by_cases c21 : t669 = t674
   ·rw [if_pos c21] at H
    have c21b0 : (t669 == t674) = true := beq_iff_eq.mpr c21
    have c21b1 : (t669 != t674) = false := bne_eq_false_iff_eq.mpr c21
    clear c21
    (first | rw [c21b0] | (simp only [i64_w, i32_w]; rw [c21b0]) | skip)
    have H' := Aside0.mk H
    clear H
    have hnb22 := NB670_665.out
    have hnc22 := NB665_670.out
    have hnb23 := NB670_675.out
    have hnc23 := NB675_670.out
    obtain ⟨hcz24_0, hcz24_1, hcz24_2, hfz24_0, hfz24_1, hfz24_2⟩ := ch3_ BK670
    have hnb25 := NB675_665.out
    have hnc25 := NB665_675.out
    obtain ⟨hcz26_0, hcz26_1, hcz26_2, hfz26_0, hfz26_1, hfz26_2⟩ := ch3_ BK675
    go_wp2
    go_meet
    case rel => exact ⟨_, ((!(t666 == t671) || (!(t667 == t672) || (!(t668 == t673))))), en_, H', ⟨by first | omega | exact Nat.le_refl _⟩, fl_ BK665 NB665_675, fl_ BK670 NB670_675, bp_ BK675, bw_ HB⟩
   ·rw [if_neg c21] at H
    have c21b0 : (t669 == t674) = false := beq_eq_false_iff_ne.mpr c21
    have c21b1 : (t669 != t674) = true := bne_iff_ne.mpr c21
    (first | rw [c21b0] | (simp only [i64_w, i32_w]; rw [c21b0]) | skip)
    have H' := Aside0.mk H
    clear H
    go_wp2
    go_meet
    case rel => exact ⟨_, (true), en_, H', ⟨by first | omega | exact Nat.le_refl _⟩, fl_ BK665 NB665_675, fl_ BK670 NB670_675, bp_ BK675, bw_ HB⟩
  case rest => as_aux_lemma =>
   clear HC7
   try clear c1
   try clear c2
   try clear p2
   try clear c3
   try clear c8
   try clear c9
   try clear c10
   try clear c11
   try clear c13
   try clear c18
   try clear c19
   try clear c21
   try clear c21b0
   try clear c21b1
   try clear c22
   try clear c23
   try clear c25
   try clear hcz10_0 hcz10_1 hcz10_2
   try clear hcz14_0 hcz14_1 hcz14_2
   try clear hcz15_0 hcz15_1 hcz15_2
   try clear hcz20_0 hcz20_1 hcz20_2
   try clear hcz24_0 hcz24_1 hcz24_2
   try clear hcz26_0 hcz26_1 hcz26_2
   try clear hfz10_0 hfz10_1 hfz10_2
   try clear hfz14_0 hfz14_1 hfz14_2
   try clear hfz15_0 hfz15_1 hfz15_2
   try clear hfz20_0 hfz20_1 hfz20_2
   try clear hfz24_0 hfz24_1 hfz24_2
   try clear hfz26_0 hfz26_1 hfz26_2
   obtain ⟨kq, x64_6, rfl, HA, HJ6, BK665, BK670, BK675, HB⟩ := hcut
   cases kq with
   | zero => exact absurd HA.out (by simp [laws_FnSteps.j0])
   | succ kj6 =>
    have H := HA.out
    clear HA
    simp only [laws_FnSteps.j0] at H
    by_cases c27 : x64_6 = true
    ·subst c27
     have H1 : (none) = some r := by rw [if_pos rfl] at H; exact H
     clear H
     have H := H1
     clear H1
     exact absurd H (by simp)
    ·replace c27 := Bool.eq_false_iff.mpr c27
     subst c27
     have H1 : ((impl_ReverseSteps.f kj6 t660 t661 t662 t663 t664).bind fun bt676 => ((spec_ReverseSteps.f kj6 t660 t661 t662 t663 t664).bind fun bt678 => (if bt676.2 = bt678.2 then (laws_FnSteps.j1 kj6 l0 t660 t664 t669 bt676.1 bt676.2 (bt676.1.toList != bt678.1.toList) t661 t662 t663 t666 t667 t668) else (laws_FnSteps.j1 kj6 l0 t660 t664 t669 bt676.1 bt676.2 true t661 t662 t663 t666 t667 t668)))) = some r := by rw [if_neg (show ¬ (false = true) by decide)] at H; exact H
     clear H
     have H := H1
     clear H1
     replace H := ob_ H
     obtain ⟨⟨t676, t677⟩, A280, H⟩ := H
     have A28 := Aside0.mk A280
     clear A280
     replace H := ob_ H
     obtain ⟨⟨t678, t679⟩, A290, H⟩ := H
     have A29 := Aside0.mk A290
     clear A290
     have HC30 := Aside0.mk H
     clear H
     have hnb31 := NB665_670.out
     have hnc31 := NB670_665.out
     have hnb32 := NB665_675.out
     have hnc32 := NB675_665.out
     obtain ⟨hcz33_0, hcz33_1, hcz33_2, hfz33_0, hfz33_1, hfz33_2⟩ := ch3_ BK665
     go_upto_region 10 with (first | ((refine gc_ 12 ?_); refine ge_ 69 Try.func12 #[.int .i64 t660, .agg #[.int .i64 t661, .int .i64 t662, .int .i64 t663], .string t664] ?_; (with_reducible refine (impl_ReverseSteps.calls kj6 t660 t661 t662 t663 t664 t676 t677 _ A28.out).mono ?_); rintro e w34 ⟨rfl, hb⟩; refine ⟨_, rfl, ?_⟩; replace BK665 := bb_ BK665 hb; replace BK670 := bb_ BK670 hb; replace BK675 := bb_ BK675 hb; replace HB := bt_ HB hb; (try clear hb); obtain ⟨hcz35_0, hcz35_1, hcz35_2, hfz35_0, hfz35_1, hfz35_2⟩ := ch3_ BK665) | ((refine gc_ 13 ?_); refine ge_ 76 Try.func13 #[.int .i64 t660, .agg #[.int .i64 t661, .int .i64 t662, .int .i64 t663], .string t664] ?_; (with_reducible refine (spec_ReverseSteps.calls kj6 t660 t661 t662 t663 t664 t678 t679 _ A29.out).mono ?_); rintro e w36 ⟨rfl, hb⟩; refine ⟨_, rfl, ?_⟩; replace BK665 := bb_ BK665 hb; replace BK670 := bb_ BK670 hb; replace BK675 := bb_ BK675 hb; replace HB := bt_ HB hb; (try clear hb)))
     (try simp only [Act.put, lstS, lstZ, lstC])
     go_cut [86] (fun v86 wc => ∃ (kq : Nat) (x86_29 : Bool), v86 = .bool x86_29 ∧ Aside0 (laws_FnSteps.j1 kq l0 t660 t664 t669 t676 t677 x86_29 t661 t662 t663 t666 t667 t668 = some r) ∧ Aside0 (kq ≤ kj6) ∧ Aside0 (wc.heap[gb665]? = some (.cells #[.int .i64 t661, .int .i64 t662, .int .i64 t663] 25 (0, 0))) ∧ Aside0 (wc.heap[gb670]? = some (.cells #[.int .i64 t666, .int .i64 t667, .int .i64 t668] 25 (0, 0))) ∧ Aside0 (wc.heap[gb675]? = some (.cells #[.int .i64 t671, .int .i64 t672, .int .i64 t673] 25 (0, 0))) ∧ Aside0 (Below w.heap.size w wc))
     case first => as_aux_lemma =>
      have H := HC30.out
      clear HC30
      by_cases c37 : t677 = t679
      ·rw [if_pos c37] at H
       have c37b0 : (t677 == t679) = true := beq_iff_eq.mpr c37
       have c37b1 : (t677 != t679) = false := bne_eq_false_iff_eq.mpr c37
       clear c37
       (first | rw [c37b0] | (simp only [i64_w, i32_w]; rw [c37b0]) | skip)
       have H' := Aside0.mk H
       clear H
       go_wp2
       go_meet
       case rel => exact ⟨_, ((t676.toList != t678.toList)), en_, H', ⟨by have := HJ6.out; first | omega | exact Nat.le_refl _⟩, bl_ BK665, bl_ BK670, bl_ BK675, bw_ HB⟩
      ·rw [if_neg c37] at H
       have c37b0 : (t677 == t679) = false := beq_eq_false_iff_ne.mpr c37
       have c37b1 : (t677 != t679) = true := bne_iff_ne.mpr c37
       (first | rw [c37b0] | (simp only [i64_w, i32_w]; rw [c37b0]) | skip)
       have H' := Aside0.mk H
       clear H
       go_wp2
       go_meet
       case rel => exact ⟨_, (true), en_, H', ⟨by have := HJ6.out; first | omega | exact Nat.le_refl _⟩, bl_ BK665, bl_ BK670, bl_ BK675, bw_ HB⟩
     case rest => as_aux_lemma =>
      clear HC30
      try clear c1
      try clear c2
      try clear p2
      try clear c3
      try clear c8
      try clear c9
      try clear c10
      try clear c11
      try clear c12
      try clear c13
      try clear c18
      try clear c19
      try clear c21
      try clear c21b0
      try clear c21b1
      try clear c22
      try clear c23
      try clear c25
      try clear c27
      try clear c31
      try clear c32
      try clear c37
      try clear c37b0
      try clear c37b1
      try clear hcz10_0 hcz10_1 hcz10_2
      try clear hcz14_0 hcz14_1 hcz14_2
      try clear hcz15_0 hcz15_1 hcz15_2
      try clear hcz20_0 hcz20_1 hcz20_2
      try clear hcz24_0 hcz24_1 hcz24_2
      try clear hcz26_0 hcz26_1 hcz26_2
      try clear hcz33_0 hcz33_1 hcz33_2
      try clear hcz35_0 hcz35_1 hcz35_2
      try clear hfz10_0 hfz10_1 hfz10_2
      try clear hfz14_0 hfz14_1 hfz14_2
      try clear hfz15_0 hfz15_1 hfz15_2
      try clear hfz20_0 hfz20_1 hfz20_2
      try clear hfz24_0 hfz24_1 hfz24_2
      try clear hfz26_0 hfz26_1 hfz26_2
      try clear hfz33_0 hfz33_1 hfz33_2
      try clear hfz35_0 hfz35_1 hfz35_2
      try clear p2
      obtain ⟨kq, x86_29, rfl, HA, HJ29, BK665, BK670, BK675, HB⟩ := hcut
      cases kq with
      | zero => exact absurd HA.out (by simp [laws_FnSteps.j1])
      | succ kj29 =>
       have H := HA.out
       clear HA
       simp only [laws_FnSteps.j1] at H
       by_cases c38 : x86_29 = true
       ·subst c38
        have H1 : (none) = some r := by rw [if_pos rfl] at H; exact H
        clear H
        have H := H1
        clear H1
        exact absurd H (by simp)
       ·replace c38 := Bool.eq_false_iff.mpr c38
        subst c38
        have H1 : ((impl_NormalSteps.f kj29 t660 t664).bind fun bt680 => ((spec_NormalSteps.f kj29 t660 t664).bind fun bt682 => (if bt680.2 = bt682.2 then (laws_FnSteps.j2 kj29 l0 t660 t669 t676 t677 bt680.1 bt680.2 (bt680.1.toList != bt682.1.toList) t661 t662 t663 t666 t667 t668) else (laws_FnSteps.j2 kj29 l0 t660 t669 t676 t677 bt680.1 bt680.2 true t661 t662 t663 t666 t667 t668)))) = some r := by rw [if_neg (show ¬ (false = true) by decide)] at H; exact H
        clear H
        have H := H1
        clear H1
        replace H := ob_ H
        obtain ⟨⟨t680, t681⟩, A390, H⟩ := H
        have A39 := Aside0.mk A390
        clear A390
        replace H := ob_ H
        obtain ⟨⟨t682, t683⟩, A400, H⟩ := H
        have A40 := Aside0.mk A400
        clear A400
        have HC41 := Aside0.mk H
        clear H
        go_upto_region 14 with (first | ((refine gc_ 14 ?_); refine ge_ 90 Try.func14 #[.int .i64 t660, .string t664] ?_; (with_reducible refine (impl_NormalSteps.calls kj29 t660 t664 t680 t681 _ A39.out).mono ?_); rintro e w42 ⟨rfl, hb⟩; refine ⟨_, rfl, ?_⟩; replace BK665 := bb_ BK665 hb; replace BK670 := bb_ BK670 hb; replace BK675 := bb_ BK675 hb; replace HB := bt_ HB hb; (try clear hb)) | ((refine gc_ 15 ?_); refine ge_ 96 Try.func15 #[.int .i64 t660, .string t664] ?_; (with_reducible refine (spec_NormalSteps.calls kj29 t660 t664 t682 t683 _ A40.out).mono ?_); rintro e w43 ⟨rfl, hb⟩; refine ⟨_, rfl, ?_⟩; replace BK665 := bb_ BK665 hb; replace BK670 := bb_ BK670 hb; replace BK675 := bb_ BK675 hb; replace HB := bt_ HB hb; (try clear hb)))
        (try simp only [Act.put, lstS, lstZ, lstC])
        go_cut [106] (fun v106 wc => ∃ (kq : Nat) (x106_40 : Bool), v106 = .bool x106_40 ∧ Aside0 (laws_FnSteps.j2 kq l0 t660 t669 t676 t677 t680 t681 x106_40 t661 t662 t663 t666 t667 t668 = some r) ∧ Aside0 (kq ≤ kj29) ∧ Aside0 (wc.heap[gb665]? = some (.cells #[.int .i64 t661, .int .i64 t662, .int .i64 t663] 25 (0, 0))) ∧ Aside0 (wc.heap[gb670]? = some (.cells #[.int .i64 t666, .int .i64 t667, .int .i64 t668] 25 (0, 0))) ∧ Aside0 (wc.heap[gb675]? = some (.cells #[.int .i64 t671, .int .i64 t672, .int .i64 t673] 25 (0, 0))) ∧ Aside0 (Below w.heap.size w wc))
        case first => as_aux_lemma =>
         have H := HC41.out
         clear HC41
         by_cases c44 : t681 = t683
         ·rw [if_pos c44] at H
          have c44b0 : (t681 == t683) = true := beq_iff_eq.mpr c44
          have c44b1 : (t681 != t683) = false := bne_eq_false_iff_eq.mpr c44
          clear c44
          (first | rw [c44b0] | (simp only [i64_w, i32_w]; rw [c44b0]) | skip)
          have H' := Aside0.mk H
          clear H
          go_wp2
          go_meet
          case rel => exact ⟨_, ((t680.toList != t682.toList)), en_, H', ⟨by have := HJ6.out; have := HJ29.out; first | omega | exact Nat.le_refl _⟩, bl_ BK665, bl_ BK670, bl_ BK675, bw_ HB⟩
         ·rw [if_neg c44] at H
          have c44b0 : (t681 == t683) = false := beq_eq_false_iff_ne.mpr c44
          have c44b1 : (t681 != t683) = true := bne_iff_ne.mpr c44
          (first | rw [c44b0] | (simp only [i64_w, i32_w]; rw [c44b0]) | skip)
          have H' := Aside0.mk H
          clear H
          go_wp2
          go_meet
          case rel => exact ⟨_, (true), en_, H', ⟨by have := HJ6.out; have := HJ29.out; first | omega | exact Nat.le_refl _⟩, bl_ BK665, bl_ BK670, bl_ BK675, bw_ HB⟩
        case rest => as_aux_lemma =>
         clear HC41
         try clear c1
         try clear c2
         try clear p2
         try clear c3
         try clear c4
         try clear c8
         try clear c9
         try clear c10
         try clear c11
         try clear c12
         try clear c13
         try clear c14
         try clear c15
         try clear c18
         try clear c19
         try clear c21
         try clear c21b0
         try clear c21b1
         try clear c22
         try clear c23
         try clear c25
         try clear c27
         try clear c31
         try clear c32
         try clear c37
         try clear c37b0
         try clear c37b1
         try clear c38
         try clear c44
         try clear c44b0
         try clear c44b1
         try clear hcz10_0 hcz10_1 hcz10_2
         try clear hcz14_0 hcz14_1 hcz14_2
         try clear hcz15_0 hcz15_1 hcz15_2
         try clear hcz20_0 hcz20_1 hcz20_2
         try clear hcz24_0 hcz24_1 hcz24_2
         try clear hcz26_0 hcz26_1 hcz26_2
         try clear hcz33_0 hcz33_1 hcz33_2
         try clear hcz35_0 hcz35_1 hcz35_2
         try clear hfz10_0 hfz10_1 hfz10_2
         try clear hfz14_0 hfz14_1 hfz14_2
         try clear hfz15_0 hfz15_1 hfz15_2
         try clear hfz20_0 hfz20_1 hfz20_2
         try clear hfz24_0 hfz24_1 hfz24_2
         try clear hfz26_0 hfz26_1 hfz26_2
         try clear hfz33_0 hfz33_1 hfz33_2
         try clear hfz35_0 hfz35_1 hfz35_2
         try clear p2
         obtain ⟨kq, x106_40, rfl, HA, HJ40, BK665, BK670, BK675, HB⟩ := hcut
         cases kq with
         | zero => exact absurd HA.out (by simp [laws_FnSteps.j2])
         | succ kj40 =>
          have H := HA.out
          clear HA
          simp only [laws_FnSteps.j2] at H
          by_cases c45 : x106_40 = true
          ·subst c45
           have H1 : (none) = some r := by rw [if_pos rfl] at H; exact H
           clear H
           have H := H1
           clear H1
           exact absurd H (by simp)
          ·replace c45 := Bool.eq_false_iff.mpr c45
           subst c45
           have H1 : ((spec_DrawWayWord.f kj40 l0).bind fun bt684 => ((impl_WayWord.f kj40 bt684.1 bt684.2.1 bt684.2.2.1 bt684.2.2.2.1 bt684.2.2.2.2.1 bt684.2.2.2.2.2.1 bt684.2.2.2.2.2.2).bind fun bt693 => ((spec_WayWord.f kj40 bt684.1 bt684.2.1 bt684.2.2.1 bt684.2.2.2.1 bt684.2.2.2.2.1 bt684.2.2.2.2.2.1 bt684.2.2.2.2.2.2).bind fun bt695 => (if bt693.2 = bt695.2 then (laws_FnSteps.j3 kj40 t660 t669 t676 t677 t680 t681 bt684.1 bt693.1 bt693.2 (bt693.1.toList != bt695.1.toList) t661 t662 t663 t666 t667 t668 bt684.2.1 bt684.2.2.1 bt684.2.2.2.1 bt684.2.2.2.2.1 bt684.2.2.2.2.2.1 bt684.2.2.2.2.2.2) else (laws_FnSteps.j3 kj40 t660 t669 t676 t677 t680 t681 bt684.1 bt693.1 bt693.2 true t661 t662 t663 t666 t667 t668 bt684.2.1 bt684.2.2.1 bt684.2.2.2.1 bt684.2.2.2.2.1 bt684.2.2.2.2.2.1 bt684.2.2.2.2.2.2))))) = some r := by rw [if_neg (show ¬ (false = true) by decide)] at H; exact H
           clear H
           have H := H1
           clear H1
           replace H := ob_ H
           obtain ⟨⟨t684, t685, t686, t687, t688, t689, t690⟩, A460, H⟩ := H
           have A46 := Aside0.mk A460
           clear A460
           replace H := ob_ H
           obtain ⟨⟨t693, t694⟩, A470, H⟩ := H
           have A47 := Aside0.mk A470
           clear A470
           replace H := ob_ H
           obtain ⟨⟨t695, t696⟩, A480, H⟩ := H
           have A48 := Aside0.mk A480
           clear A480
           have HC49 := Aside0.mk H
           clear H
           go_upto_region 19 with (first | ((refine gd_ 114 ?_); (with_reducible refine gwS_ ?_); intro wg1 hq_; have n0_ : Aside0 (wg1.heap[gb665]? = some (.cells #[.int .i64 t661, .int .i64 t662, .int .i64 t663] 25 (0, 0))) := ⟨by rw [hq_]; exact (bp_ BK665).out⟩; have n1_ : Aside0 (wg1.heap[gb670]? = some (.cells #[.int .i64 t666, .int .i64 t667, .int .i64 t668] 25 (0, 0))) := ⟨by rw [hq_]; exact (bp_ BK670).out⟩; have n2_ : Aside0 (wg1.heap[gb675]? = some (.cells #[.int .i64 t671, .int .i64 t672, .int .i64 t673] 25 (0, 0))) := ⟨by rw [hq_]; exact (bp_ BK675).out⟩; have n3_ : Aside0 (wg1.heap[gb691]? = some (.cells #[.int .i64 t685, .int .i64 t686, .int .i64 t687] 25 (0, 0))) := ⟨by rw [hq_]; exact (bp_ BK691).out⟩; have n4_ : Aside0 (wg1.heap[gb692]? = some (.cells #[.int .i64 t688, .int .i64 t689, .int .i64 t690] 25 (0, 0))) := ⟨by rw [hq_]; exact (bp_ BK692).out⟩; have nh_ : Aside0 (Below w.heap.size w wg1) := ⟨by rw [hq_]; exact (bw_ HB).out⟩; clear hq_ HB BK665 BK670 BK675 BK691 BK692; have BK665 := n0_; have BK670 := n1_; have BK675 := n2_; have BK691 := n3_; have BK692 := n4_; have HB := nh_; clear nh_ n0_ n1_ n2_ n3_ n4_; obtain ⟨hg2_0, hg2_1, hg2_2, hg2_3, hg2_4, hg2_5⟩ := ch3_ BK691; obtain ⟨hg3_0, hg3_1, hg3_2, hg3_3, hg3_4, hg3_5⟩ := ch3_ BK692) | ((refine gc_ 16 ?_); refine ge_ 109 Try.func16 #[.slice A0 l0.length c0] ?_; (with_reducible refine (spec_DrawWayWord.calls kj40 _ _ l0 t684 t685 t686 t687 t688 t689 t690 _ ?side1 ?side2 A46.out).mono ?_); (case side1 => exact ca_ (Kd.C_below HR0.out HB.out)); (case side2 => exact HC0.out); rintro e w50 ⟨rfl, hb⟩; refine ⟨_, rfl, ?_⟩; replace BK665 := bb_ BK665 hb; replace BK670 := bb_ BK670 hb; replace BK675 := bb_ BK675 hb; replace HB := bt_ HB hb; (try clear hb)) | ((refine gd_ 19 ?_); (try (refine gate_guard (by rfl) ?_; dsimp only)); refine bx_ 19 #[.int .i64 0, .int .i64 0, .int .i64 0] 25 ?_; intro gb691 hg w51 BK691 hb; have GW691 := bs_ HB hg; have GE691 := bs_ HB hg; have NB665_691 := bm_ BK665 hg; have NB691_665 := bn_ BK665 hg; have NB670_691 := bm_ BK670 hg; have NB691_670 := bn_ BK670 hg; have NB675_691 := bm_ BK675 hg; have NB691_675 := bn_ BK675 hg; replace BK665 := bb_ BK665 hb; replace BK670 := bb_ BK670 hb; replace BK675 := bb_ BK675 hb; replace HB := bt_ HB hb; clear hb hg) | ((refine gd_ 20 ?_); (try (refine gate_guard (by rfl) ?_; dsimp only)); refine bx_ 20 #[.int .i64 0, .int .i64 0, .int .i64 0] 25 ?_; intro gb692 hg w52 BK692 hb; have GW692 := bs_ HB hg; have GE692 := bs_ HB hg; have NB665_692 := bm_ BK665 hg; have NB692_665 := bn_ BK665 hg; have NB670_692 := bm_ BK670 hg; have NB692_670 := bn_ BK670 hg; have NB675_692 := bm_ BK675 hg; have NB692_675 := bn_ BK675 hg; have NB691_692 := bm_ BK691 hg; have NB692_691 := bn_ BK691 hg; replace BK665 := bb_ BK665 hb; replace BK670 := bb_ BK670 hb; replace BK675 := bb_ BK675 hb; replace BK691 := bb_ BK691 hb; replace HB := bt_ HB hb; clear hb hg; have hnb53 := NB691_665.out; have hnc53 := NB665_691.out; have hnb54 := NB691_670.out; have hnc54 := NB670_691.out; have hnb55 := NB691_675.out; have hnc55 := NB675_691.out; have hnb56 := NB691_692.out; have hnc56 := NB692_691.out; obtain ⟨hcz57_0, hcz57_1, hcz57_2, hfz57_0, hfz57_1, hfz57_2⟩ := ch3_ BK691; have hnb58 := NB692_665.out; have hnc58 := NB665_692.out; have hnb59 := NB692_670.out; have hnc59 := NB670_692.out; have hnb60 := NB692_675.out; have hnc60 := NB675_692.out; obtain ⟨hcz61_0, hcz61_1, hcz61_2, hfz61_0, hfz61_1, hfz61_2⟩ := ch3_ BK692) | ((refine gc_ 17 ?_); refine ge_ 117 Try.func17 #[.int .i64 t684, .agg #[.int .i64 t685, .int .i64 t686, .int .i64 t687], .agg #[.int .i64 t688, .int .i64 t689, .int .i64 t690]] ?_; (with_reducible refine (impl_WayWord.calls kj40 t684 t685 t686 t687 t688 t689 t690 t693 t694 _ A47.out).mono ?_); rintro e w62 ⟨rfl, hb⟩; refine ⟨_, rfl, ?_⟩; replace BK665 := Aside0.mk (blk_below (g := gb665) (o := .cells #[.int .i64 t661, .int .i64 t662, .int .i64 t663] 25 (0, 0)) (bp_ BK665).out hb); replace BK670 := Aside0.mk (blk_below (g := gb670) (o := .cells #[.int .i64 t666, .int .i64 t667, .int .i64 t668] 25 (0, 0)) (bp_ BK670).out hb); replace BK675 := Aside0.mk (blk_below (g := gb675) (o := .cells #[.int .i64 t671, .int .i64 t672, .int .i64 t673] 25 (0, 0)) (bp_ BK675).out hb); replace BK691 := Aside0.mk (blk_below (g := gb691) (o := .cells #[.int .i64 t685, .int .i64 t686, .int .i64 t687] 25 (0, 0)) (bp_ BK691).out hb); replace BK692 := Aside0.mk (blk_below (g := gb692) (o := .cells #[.int .i64 t688, .int .i64 t689, .int .i64 t690] 25 (0, 0)) (bp_ BK692).out hb); replace HB := bt_ HB hb; (try clear hb); obtain ⟨hcz63_0, hcz63_1, hcz63_2, hfz63_0, hfz63_1, hfz63_2⟩ := ch3_ BK691; obtain ⟨hcz64_0, hcz64_1, hcz64_2, hfz64_0, hfz64_1, hfz64_2⟩ := ch3_ BK692) | ((refine gc_ 18 ?_); refine ge_ 124 Try.func18 #[.int .i64 t684, .agg #[.int .i64 t685, .int .i64 t686, .int .i64 t687], .agg #[.int .i64 t688, .int .i64 t689, .int .i64 t690]] ?_; (with_reducible refine (spec_WayWord.calls kj40 t684 t685 t686 t687 t688 t689 t690 t695 t696 _ A48.out).mono ?_); rintro e w65 ⟨rfl, hb⟩; refine ⟨_, rfl, ?_⟩; replace BK665 := bb_ BK665 hb; replace BK670 := bb_ BK670 hb; replace BK675 := bb_ BK675 hb; replace BK691 := bb_ BK691 hb; replace BK692 := bb_ BK692 hb; replace HB := bt_ HB hb; (try clear hb)))
           (try simp only [Act.put, lstS, lstZ, lstC])
           go_cut [134] (fun v134 wc => ∃ (kq : Nat) (x134_48 : Bool), v134 = .bool x134_48 ∧ Aside0 (laws_FnSteps.j3 kq t660 t669 t676 t677 t680 t681 t684 t693 t694 x134_48 t661 t662 t663 t666 t667 t668 t685 t686 t687 t688 t689 t690 = some r) ∧ Aside0 (kq ≤ kj40) ∧ Aside0 (wc.heap[gb665]? = some (.cells #[.int .i64 t661, .int .i64 t662, .int .i64 t663] 25 (0, 0))) ∧ Aside0 (wc.heap[gb670]? = some (.cells #[.int .i64 t666, .int .i64 t667, .int .i64 t668] 25 (0, 0))) ∧ Aside0 (wc.heap[gb675]? = some (.cells #[.int .i64 t671, .int .i64 t672, .int .i64 t673] 25 (0, 0))) ∧ Aside0 (wc.heap[gb691]? = some (.cells #[.int .i64 t685, .int .i64 t686, .int .i64 t687] 25 (0, 0))) ∧ Aside0 (wc.heap[gb692]? = some (.cells #[.int .i64 t688, .int .i64 t689, .int .i64 t690] 25 (0, 0))) ∧ Aside0 (Below w.heap.size w wc))
           case first => as_aux_lemma =>
            have H := HC49.out
            clear HC49
            by_cases c66 : t694 = t696
            ·rw [if_pos c66] at H
             have c66b0 : (t694 == t696) = true := beq_iff_eq.mpr c66
             have c66b1 : (t694 != t696) = false := bne_eq_false_iff_eq.mpr c66
             clear c66
             (first | rw [c66b0] | (simp only [i64_w, i32_w]; rw [c66b0]) | skip)
             have H' := Aside0.mk H
             clear H
             go_wp2
             go_meet
             case rel => exact ⟨_, ((t693.toList != t695.toList)), en_, H', ⟨by have := HJ6.out; have := HJ29.out; have := HJ40.out; first | omega | exact Nat.le_refl _⟩, bl_ BK665, bl_ BK670, bl_ BK675, bl_ BK691, bl_ BK692, bw_ HB⟩
            ·rw [if_neg c66] at H
             have c66b0 : (t694 == t696) = false := beq_eq_false_iff_ne.mpr c66
             have c66b1 : (t694 != t696) = true := bne_iff_ne.mpr c66
             (first | rw [c66b0] | (simp only [i64_w, i32_w]; rw [c66b0]) | skip)
             have H' := Aside0.mk H
             clear H
             go_wp2
             go_meet
             case rel => exact ⟨_, (true), en_, H', ⟨by have := HJ6.out; have := HJ29.out; have := HJ40.out; first | omega | exact Nat.le_refl _⟩, bl_ BK665, bl_ BK670, bl_ BK675, bl_ BK691, bl_ BK692, bw_ HB⟩
           case rest => as_aux_lemma =>
            clear HC49
            try clear c1
            try clear c2
            try clear p2
            try clear c3
            try clear c4
            try clear c5
            try clear c6
            try clear c8
            try clear c9
            try clear c10
            try clear c11
            try clear c12
            try clear c13
            try clear c14
            try clear c15
            try clear c16
            try clear c17
            try clear c18
            try clear c19
            try clear c21
            try clear c21b0
            try clear c21b1
            try clear c22
            try clear c23
            try clear c25
            try clear c27
            try clear c31
            try clear c32
            try clear c37
            try clear c37b0
            try clear c37b1
            try clear c38
            try clear c44
            try clear c44b0
            try clear c44b1
            try clear c45
            try clear c53
            try clear c54
            try clear c55
            try clear c56
            try clear c58
            try clear c59
            try clear c60
            try clear c66
            try clear c66b0
            try clear c66b1
            try clear hcz10_0 hcz10_1 hcz10_2
            try clear hcz14_0 hcz14_1 hcz14_2
            try clear hcz15_0 hcz15_1 hcz15_2
            try clear hcz20_0 hcz20_1 hcz20_2
            try clear hcz24_0 hcz24_1 hcz24_2
            try clear hcz26_0 hcz26_1 hcz26_2
            try clear hcz33_0 hcz33_1 hcz33_2
            try clear hcz35_0 hcz35_1 hcz35_2
            try clear hcz57_0 hcz57_1 hcz57_2
            try clear hcz61_0 hcz61_1 hcz61_2
            try clear hcz63_0 hcz63_1 hcz63_2
            try clear hcz64_0 hcz64_1 hcz64_2
            try clear hfz10_0 hfz10_1 hfz10_2
            try clear hfz14_0 hfz14_1 hfz14_2
            try clear hfz15_0 hfz15_1 hfz15_2
            try clear hfz20_0 hfz20_1 hfz20_2
            try clear hfz24_0 hfz24_1 hfz24_2
            try clear hfz26_0 hfz26_1 hfz26_2
            try clear hfz33_0 hfz33_1 hfz33_2
            try clear hfz35_0 hfz35_1 hfz35_2
            try clear hfz57_0 hfz57_1 hfz57_2
            try clear hfz61_0 hfz61_1 hfz61_2
            try clear hfz63_0 hfz63_1 hfz63_2
            try clear hfz64_0 hfz64_1 hfz64_2
            try clear p2
            obtain ⟨kq, x134_48, rfl, HA, HJ48, BK665, BK670, BK675, BK691, BK692, HB⟩ := hcut
            cases kq with
            | zero => exact absurd HA.out (by simp [laws_FnSteps.j3])
            | succ kj48 =>
             have H := HA.out
             clear HA
             simp only [laws_FnSteps.j3] at H
             by_cases c67 : x134_48 = true
             ·subst c67
              have H1 : (none) = some r := by rw [if_pos rfl] at H; exact H
              clear H
              have H := H1
              clear H1
              exact absurd H (by simp)
             ·replace c67 := Bool.eq_false_iff.mpr c67
              subst c67
              have H1 : (if t694 = 0 then ((impl_TreeDistance.f kj48 t684 t685 t686 t687 t688 t689 t690).bind fun bt697 => ((impl_FollowSteps.f kj48 t684 t685 t686 t687 t693).bind fun bt699 => (if bt697.2 = 0 then (if (t693.size : Int) = bt697.1 then (if bt699.2.2.2 = 0 then (if (!(bt699.1 == t688) || (!(bt699.2.1 == t689) || (!(bt699.2.2.1 == t690)))) = true then (none) else (laws_FnSteps.j4 kj48 t660 t669 t676 t677 t680 t681 t661 t662 t663 t666 t667 t668)) else (none)) else (none)) else (none)))) else (laws_FnSteps.j4 kj48 t660 t669 t676 t677 t680 t681 t661 t662 t663 t666 t667 t668)) = some r := by rw [if_neg (show ¬ (false = true) by decide)] at H; exact H
              clear H
              have H := H1
              clear H1
              have HC68 := Aside0.mk H
              clear H
              go_upto_if 136 with (fail)
              go_cut [] (fun wc => ∃ (kq : Nat), Aside0 (laws_FnSteps.j4 kq t660 t669 t676 t677 t680 t681 t661 t662 t663 t666 t667 t668 = some r) ∧ Aside0 (kq ≤ kj48) ∧ Aside0 (wc.heap[gb665]? = some (.cells #[.int .i64 t661, .int .i64 t662, .int .i64 t663] 25 (0, 0))) ∧ Aside0 (wc.heap[gb670]? = some (.cells #[.int .i64 t666, .int .i64 t667, .int .i64 t668] 25 (0, 0))) ∧ Aside0 (wc.heap[gb675]? = some (.cells #[.int .i64 t671, .int .i64 t672, .int .i64 t673] 25 (0, 0))) ∧ Aside0 (wc.heap[gb691]? = some (.cells #[.int .i64 t685, .int .i64 t686, .int .i64 t687] 25 (0, 0))) ∧ Aside0 (wc.heap[gb692]? = some (.cells #[.int .i64 t688, .int .i64 t689, .int .i64 t690] 25 (0, 0))) ∧ Aside0 (Below w.heap.size w wc))
              case first => as_aux_lemma =>
               have H := HC68.out
               clear HC68
               by_cases c69 : t694 = 0
               ·rw [if_pos c69] at H
                have c69b0 : (t694 == 0) = true := beq_iff_eq.mpr c69
                have c69b1 : (t694 != 0) = false := bne_eq_false_iff_eq.mpr c69
                clear c69
                (first | rw [c69b0] | (simp only [i64_w, i32_w]; rw [c69b0]) | skip)
                replace H := ob_ H
                obtain ⟨⟨t697, t698⟩, A700, H⟩ := H
                have A70 := Aside0.mk A700
                clear A700
                replace H := ob_ H
                obtain ⟨⟨t699, t700, t701, t702⟩, A710, H⟩ := H
                have A71 := Aside0.mk A710
                clear A710
                by_cases c72 : t698 = 0
                ·rw [if_pos c72] at H
                 have c72b0 : (t698 == 0) = true := beq_iff_eq.mpr c72
                 have c72b1 : (t698 != 0) = false := bne_eq_false_iff_eq.mpr c72
                 clear c72
                 by_cases c73 : (t693.size : Int) = t697
                 ·rw [if_pos c73] at H
                  have c73b0 : ((t693.size : Int) == t697) = true := beq_iff_eq.mpr c73
                  have c73b1 : ((t693.size : Int) != t697) = false := bne_eq_false_iff_eq.mpr c73
                  clear c73
                  by_cases c74 : t702 = 0
                  ·rw [if_pos c74] at H
                   have c74b0 : (t702 == 0) = true := beq_iff_eq.mpr c74
                   have c74b1 : (t702 != 0) = false := bne_eq_false_iff_eq.mpr c74
                   clear c74
                   by_cases c75 : (!(t699 == t688) || (!(t700 == t689) || (!(t701 == t690)))) = true
                   ·rw [if_pos c75] at H
                    exact absurd H (by simp)
                   ·rw [if_neg c75] at H
                    have c75b0 : (!(t699 == t688) || (!(t700 == t689) || (!(t701 == t690)))) = false := by simpa using c75
                    clear c75
                    have H' := Aside0.mk H
                    clear H
                    have hnb76 := NB691_665.out
                    have hnc76 := NB665_691.out
                    have hnb77 := NB691_670.out
                    have hnc77 := NB670_691.out
                    have hnb78 := NB691_675.out
                    have hnc78 := NB675_691.out
                    have hnb79 := NB691_692.out
                    have hnc79 := NB692_691.out
                    obtain ⟨hcz80_0, hcz80_1, hcz80_2, hfz80_0, hfz80_1, hfz80_2⟩ := ch3_ BK691
                    have hnb81 := NB692_665.out
                    have hnc81 := NB665_692.out
                    have hnb82 := NB692_670.out
                    have hnc82 := NB670_692.out
                    have hnb83 := NB692_675.out
                    have hnc83 := NB675_692.out
                    obtain ⟨hcz84_0, hcz84_1, hcz84_2, hfz84_0, hfz84_1, hfz84_2⟩ := ch3_ BK692
                    go_wp2_with (first | ((refine gc_ 19 ?_); refine ge_ 141 Try.func19 #[.int .i64 t684, .agg #[.int .i64 t685, .int .i64 t686, .int .i64 t687], .agg #[.int .i64 t688, .int .i64 t689, .int .i64 t690]] ?_; (with_reducible refine (impl_TreeDistance.calls kj48 t684 t685 t686 t687 t688 t689 t690 t697 t698 _ A70.out).mono ?_); rintro e w85 ⟨rfl, hb⟩; refine ⟨_, rfl, ?_⟩; replace BK665 := bb_ BK665 hb; replace BK670 := bb_ BK670 hb; replace BK675 := bb_ BK675 hb; replace BK691 := bb_ BK691 hb; replace BK692 := bb_ BK692 hb; replace HB := bt_ HB hb; (try clear hb); obtain ⟨hcz86_0, hcz86_1, hcz86_2, hfz86_0, hfz86_1, hfz86_2⟩ := ch3_ BK691) | ((refine gc_ 10 ?_); refine ge_ 148 Try.func10 #[.int .i64 t684, .agg #[.int .i64 t685, .int .i64 t686, .int .i64 t687], .string t693] ?_; (with_reducible refine (impl_FollowSteps.calls kj48 t684 t685 t686 t687 t693 t699 t700 t701 t702 _ A71.out).mono ?_); rintro e w87 ⟨rfl, hb⟩; refine ⟨_, rfl, ?_⟩; replace BK665 := bb_ BK665 hb; replace BK670 := bb_ BK670 hb; replace BK675 := bb_ BK675 hb; replace BK691 := bb_ BK691 hb; replace BK692 := bb_ BK692 hb; replace HB := bt_ HB hb; (try clear hb)) | ((refine gd_ 27 ?_); (try (refine gate_guard (by rfl) ?_; dsimp only)); refine bx_ 27 #[.int .i64 0, .int .i64 0, .int .i64 0] 25 ?_; intro gb703 hg w88 BK703 hb; have GW703 := bs_ HB hg; have GE703 := bs_ HB hg; have NB665_703 := bm_ BK665 hg; have NB703_665 := bn_ BK665 hg; have NB670_703 := bm_ BK670 hg; have NB703_670 := bn_ BK670 hg; have NB675_703 := bm_ BK675 hg; have NB703_675 := bn_ BK675 hg; have NB691_703 := bm_ BK691 hg; have NB703_691 := bn_ BK691 hg; have NB692_703 := bm_ BK692 hg; have NB703_692 := bn_ BK692 hg; replace BK665 := bb_ BK665 hb; replace BK670 := bb_ BK670 hb; replace BK675 := bb_ BK675 hb; replace BK691 := bb_ BK691 hb; replace BK692 := bb_ BK692 hb; replace HB := bt_ HB hb; clear hb hg; have hnb89 := NB703_665.out; have hnc89 := NB665_703.out; have hnb90 := NB703_670.out; have hnc90 := NB670_703.out; have hnb91 := NB703_675.out; have hnc91 := NB675_703.out; have hnb92 := NB703_691.out; have hnc92 := NB691_703.out; have hnb93 := NB703_692.out; have hnc93 := NB692_703.out; obtain ⟨hcz94_0, hcz94_1, hcz94_2, hfz94_0, hfz94_1, hfz94_2⟩ := ch3_ BK703; obtain ⟨hcz95_0, hcz95_1, hcz95_2, hfz95_0, hfz95_1, hfz95_2⟩ := ch3_ BK692))
                    go_meet
                    case rel => exact ⟨_, H', ⟨by have := HJ6.out; have := HJ29.out; have := HJ40.out; have := HJ48.out; first | omega | exact Nat.le_refl _⟩, fl_ BK665 NB665_703, fl_ BK670 NB670_703, fl_ BK675 NB675_703, fl_ BK691 NB691_703, fl_ BK692 NB692_703, bw_ HB⟩
                  ·rw [if_neg c74] at H
                   exact absurd H (by simp)
                 ·rw [if_neg c73] at H
                  exact absurd H (by simp)
                ·rw [if_neg c72] at H
                 exact absurd H (by simp)
               ·rw [if_neg c69] at H
                have c69b0 : (t694 == 0) = false := beq_eq_false_iff_ne.mpr c69
                have c69b1 : (t694 != 0) = true := bne_iff_ne.mpr c69
                (first | rw [c69b0] | (simp only [i64_w, i32_w]; rw [c69b0]) | skip)
                have H' := Aside0.mk H
                clear H
                go_wp2
                go_meet
                case rel => exact ⟨_, H', ⟨by have := HJ6.out; have := HJ29.out; have := HJ40.out; have := HJ48.out; first | omega | exact Nat.le_refl _⟩, bl_ BK665, bl_ BK670, bl_ BK675, bl_ BK691, bl_ BK692, bw_ HB⟩
              case rest => as_aux_lemma =>
               clear HC68
               try clear c1
               try clear c2
               try clear p2
               try clear c3
               try clear c4
               try clear c5
               try clear c6
               try clear c7
               try clear c8
               try clear c9
               try clear c10
               try clear c11
               try clear c12
               try clear c13
               try clear c14
               try clear c15
               try clear c16
               try clear c17
               try clear c18
               try clear c19
               try clear c21
               try clear c21b0
               try clear c21b1
               try clear c22
               try clear c23
               try clear c25
               try clear c27
               try clear c31
               try clear c32
               try clear c37
               try clear c37b0
               try clear c37b1
               try clear c38
               try clear c44
               try clear c44b0
               try clear c44b1
               try clear c45
               try clear c53
               try clear c54
               try clear c55
               try clear c56
               try clear c58
               try clear c59
               try clear c60
               try clear c66
               try clear c66b0
               try clear c66b1
               try clear c67
               try clear c69
               try clear c69b0
               try clear c69b1
               try clear c72
               try clear c72b0
               try clear c72b1
               try clear c73
               try clear c73b0
               try clear c73b1
               try clear c74
               try clear c74b0
               try clear c74b1
               try clear c75
               try clear c75b0
               try clear c76
               try clear c77
               try clear c78
               try clear c79
               try clear c81
               try clear c82
               try clear c83
               try clear c89
               try clear c90
               try clear c91
               try clear c92
               try clear c93
               try clear hcz10_0 hcz10_1 hcz10_2
               try clear hcz14_0 hcz14_1 hcz14_2
               try clear hcz15_0 hcz15_1 hcz15_2
               try clear hcz20_0 hcz20_1 hcz20_2
               try clear hcz24_0 hcz24_1 hcz24_2
               try clear hcz26_0 hcz26_1 hcz26_2
               try clear hcz33_0 hcz33_1 hcz33_2
               try clear hcz35_0 hcz35_1 hcz35_2
               try clear hcz57_0 hcz57_1 hcz57_2
               try clear hcz61_0 hcz61_1 hcz61_2
               try clear hcz63_0 hcz63_1 hcz63_2
               try clear hcz64_0 hcz64_1 hcz64_2
               try clear hcz80_0 hcz80_1 hcz80_2
               try clear hcz84_0 hcz84_1 hcz84_2
               try clear hcz86_0 hcz86_1 hcz86_2
               try clear hcz94_0 hcz94_1 hcz94_2
               try clear hcz95_0 hcz95_1 hcz95_2
               try clear hfz10_0 hfz10_1 hfz10_2
               try clear hfz14_0 hfz14_1 hfz14_2
               try clear hfz15_0 hfz15_1 hfz15_2
               try clear hfz20_0 hfz20_1 hfz20_2
               try clear hfz24_0 hfz24_1 hfz24_2
               try clear hfz26_0 hfz26_1 hfz26_2
               try clear hfz33_0 hfz33_1 hfz33_2
               try clear hfz35_0 hfz35_1 hfz35_2
               try clear hfz57_0 hfz57_1 hfz57_2
               try clear hfz61_0 hfz61_1 hfz61_2
               try clear hfz63_0 hfz63_1 hfz63_2
               try clear hfz64_0 hfz64_1 hfz64_2
               try clear hfz80_0 hfz80_1 hfz80_2
               try clear hfz84_0 hfz84_1 hfz84_2
               try clear hfz86_0 hfz86_1 hfz86_2
               try clear hfz94_0 hfz94_1 hfz94_2
               try clear hfz95_0 hfz95_1 hfz95_2
               try clear p2
               obtain ⟨kq, HA, HJ67, BK665, BK670, BK675, BK691, BK692, HB⟩ := hcut
               cases kq with
               | zero => exact absurd HA.out (by simp [laws_FnSteps.j4])
               | succ kj67 =>
                have H := HA.out
                clear HA
                simp only [laws_FnSteps.j4] at H
                by_cases c96 : t669 = 0
                ·rw [if_pos c96] at H
                 have c96b0 : (t669 == 0) = true := beq_iff_eq.mpr c96
                 have c96b1 : (t669 != 0) = false := bne_eq_false_iff_eq.mpr c96
                 clear c96
                 replace H := ob_ H
                 obtain ⟨⟨t704, t705, t706, t707⟩, A970, H⟩ := H
                 have A97 := Aside0.mk A970
                 clear A970
                 have HC98 := Aside0.mk H
                 clear H
                 have hnb99 := NB670_665.out
                 have hnc99 := NB665_670.out
                 have hnb100 := NB670_675.out
                 have hnc100 := NB675_670.out
                 have hnb101 := NB670_691.out
                 have hnc101 := NB691_670.out
                 have hnb102 := NB670_692.out
                 have hnc102 := NB692_670.out
                 obtain ⟨hcz103_0, hcz103_1, hcz103_2, hfz103_0, hfz103_1, hfz103_2⟩ := ch3_ BK670
                 go_upto_region 29 with (first | ((refine gc_ 10 ?_); refine ge_ 182 Try.func10 #[.int .i64 t660, .agg #[.int .i64 t666, .int .i64 t667, .int .i64 t668], .string t676] ?_; (with_reducible refine (impl_FollowSteps.calls kj67 t660 t666 t667 t668 t676 t704 t705 t706 t707 _ A97.out).mono ?_); rintro e w104 ⟨rfl, hb⟩; refine ⟨_, rfl, ?_⟩; replace BK665 := bb_ BK665 hb; replace BK670 := bb_ BK670 hb; replace BK675 := bb_ BK675 hb; replace BK691 := bb_ BK691 hb; replace BK692 := bb_ BK692 hb; replace HB := bt_ HB hb; (try clear hb)) | ((refine gd_ 29 ?_); (try (refine gate_guard (by rfl) ?_; dsimp only)); refine bx_ 29 #[.int .i64 0, .int .i64 0, .int .i64 0] 25 ?_; intro gb708 hg w105 BK708 hb; have GW708 := bs_ HB hg; have GE708 := bs_ HB hg; have NB665_708 := bm_ BK665 hg; have NB708_665 := bn_ BK665 hg; have NB670_708 := bm_ BK670 hg; have NB708_670 := bn_ BK670 hg; have NB675_708 := bm_ BK675 hg; have NB708_675 := bn_ BK675 hg; have NB691_708 := bm_ BK691 hg; have NB708_691 := bn_ BK691 hg; have NB692_708 := bm_ BK692 hg; have NB708_692 := bn_ BK692 hg; replace BK665 := bb_ BK665 hb; replace BK670 := bb_ BK670 hb; replace BK675 := bb_ BK675 hb; replace BK691 := bb_ BK691 hb; replace BK692 := bb_ BK692 hb; replace HB := bt_ HB hb; clear hb hg; have hnb106 := NB708_665.out; have hnc106 := NB665_708.out; have hnb107 := NB708_670.out; have hnc107 := NB670_708.out; have hnb108 := NB708_675.out; have hnc108 := NB675_708.out; have hnb109 := NB708_691.out; have hnc109 := NB691_708.out; have hnb110 := NB708_692.out; have hnc110 := NB692_708.out; obtain ⟨hcz111_0, hcz111_1, hcz111_2, hfz111_0, hfz111_1, hfz111_2⟩ := ch3_ BK708))
                 (try simp only [Act.put, lstS, lstZ, lstC])
                 go_cut [199] (fun v199 wc => ∃ (kq : Nat) (x199_97 : Bool), v199 = .bool x199_97 ∧ Aside0 (laws_FnSteps.j5 kq t660 t680 x199_97 t661 t662 t663 t666 t667 t668 = some r) ∧ Aside0 (kq ≤ kj67) ∧ Aside0 (wc.heap[gb665]? = some (.cells #[.int .i64 t661, .int .i64 t662, .int .i64 t663] 25 (0, 0))) ∧ Aside0 (wc.heap[gb670]? = some (.cells #[.int .i64 t666, .int .i64 t667, .int .i64 t668] 25 (0, 0))) ∧ Aside0 (wc.heap[gb675]? = some (.cells #[.int .i64 t671, .int .i64 t672, .int .i64 t673] 25 (0, 0))) ∧ Aside0 (wc.heap[gb691]? = some (.cells #[.int .i64 t685, .int .i64 t686, .int .i64 t687] 25 (0, 0))) ∧ Aside0 (wc.heap[gb692]? = some (.cells #[.int .i64 t688, .int .i64 t689, .int .i64 t690] 25 (0, 0))) ∧ Aside0 (wc.heap[gb708]? = some (.cells #[.int .i64 t704, .int .i64 t705, .int .i64 t706] 25 (0, 0))) ∧ Aside0 (Below w.heap.size w wc))
                 case first => as_aux_lemma =>
                  have H := HC98.out
                  clear HC98
                  by_cases c112 : t677 = 0
                  ·rw [if_pos c112] at H
                   have c112b0 : (t677 == 0) = true := beq_iff_eq.mpr c112
                   have c112b1 : (t677 != 0) = false := bne_eq_false_iff_eq.mpr c112
                   clear c112
                   (first | rw [c112b0] | (simp only [i64_w, i32_w]; rw [c112b0]) | skip)
                   by_cases c113 : t707 = 0
                   ·rw [if_pos c113] at H
                    have c113b0 : (t707 == 0) = true := beq_iff_eq.mpr c113
                    have c113b1 : (t707 != 0) = false := bne_eq_false_iff_eq.mpr c113
                    clear c113
                    by_cases c114 : (!(t704 == t661) || (!(t705 == t662) || (!(t706 == t663)))) = true
                    ·rw [if_pos c114] at H
                     have c114b0 : (!(t704 == t661) || (!(t705 == t662) || (!(t706 == t663)))) = true := c114
                     clear c114
                     have H' := Aside0.mk H
                     clear H
                     have hnb115 := NB708_665.out
                     have hnc115 := NB665_708.out
                     have hnb116 := NB708_670.out
                     have hnc116 := NB670_708.out
                     have hnb117 := NB708_675.out
                     have hnc117 := NB675_708.out
                     have hnb118 := NB708_691.out
                     have hnc118 := NB691_708.out
                     have hnb119 := NB708_692.out
                     have hnc119 := NB692_708.out
                     obtain ⟨hcz120_0, hcz120_1, hcz120_2, hfz120_0, hfz120_1, hfz120_2⟩ := ch3_ BK708
                     have hnb121 := NB665_670.out
                     have hnc121 := NB670_665.out
                     have hnb122 := NB665_675.out
                     have hnc122 := NB675_665.out
                     have hnb123 := NB665_691.out
                     have hnc123 := NB691_665.out
                     have hnb124 := NB665_692.out
                     have hnc124 := NB692_665.out
                     obtain ⟨hcz125_0, hcz125_1, hcz125_2, hfz125_0, hfz125_1, hfz125_2⟩ := ch3_ BK665
                     go_wp2
                     go_meet
                     case rel => exact ⟨_, (true), en_, H', ⟨by have := HJ6.out; have := HJ29.out; have := HJ40.out; have := HJ48.out; have := HJ67.out; first | omega | exact Nat.le_refl _⟩, fl_ BK665 NB665_708, fl_ BK670 NB670_708, fl_ BK675 NB675_708, fl_ BK691 NB691_708, fl_ BK692 NB692_708, bp_ BK708, bw_ HB⟩
                    ·rw [if_neg c114] at H
                     have c114b0 : (!(t704 == t661) || (!(t705 == t662) || (!(t706 == t663)))) = false := by simpa using c114
                     clear c114
                     have H' := Aside0.mk H
                     clear H
                     have hnb126 := NB708_665.out
                     have hnc126 := NB665_708.out
                     have hnb127 := NB708_670.out
                     have hnc127 := NB670_708.out
                     have hnb128 := NB708_675.out
                     have hnc128 := NB675_708.out
                     have hnb129 := NB708_691.out
                     have hnc129 := NB691_708.out
                     have hnb130 := NB708_692.out
                     have hnc130 := NB692_708.out
                     obtain ⟨hcz131_0, hcz131_1, hcz131_2, hfz131_0, hfz131_1, hfz131_2⟩ := ch3_ BK708
                     have hnb132 := NB665_670.out
                     have hnc132 := NB670_665.out
                     have hnb133 := NB665_675.out
                     have hnc133 := NB675_665.out
                     have hnb134 := NB665_691.out
                     have hnc134 := NB691_665.out
                     have hnb135 := NB665_692.out
                     have hnc135 := NB692_665.out
                     obtain ⟨hcz136_0, hcz136_1, hcz136_2, hfz136_0, hfz136_1, hfz136_2⟩ := ch3_ BK665
                     go_wp2
                     go_meet
                     case rel => exact ⟨_, ((t681 != 0)), en_, H', ⟨by have := HJ6.out; have := HJ29.out; have := HJ40.out; have := HJ48.out; have := HJ67.out; first | omega | exact Nat.le_refl _⟩, fl_ BK665 NB665_708, fl_ BK670 NB670_708, fl_ BK675 NB675_708, fl_ BK691 NB691_708, fl_ BK692 NB692_708, bp_ BK708, bw_ HB⟩
                   ·rw [if_neg c113] at H
                    have c113b0 : (t707 == 0) = false := beq_eq_false_iff_ne.mpr c113
                    have c113b1 : (t707 != 0) = true := bne_iff_ne.mpr c113
                    have H' := Aside0.mk H
                    clear H
                    go_wp2
                    go_meet
                    case rel => exact ⟨_, (true), en_, H', ⟨by have := HJ6.out; have := HJ29.out; have := HJ40.out; have := HJ48.out; have := HJ67.out; first | omega | exact Nat.le_refl _⟩, fl_ BK665 NB665_708, fl_ BK670 NB670_708, fl_ BK675 NB675_708, fl_ BK691 NB691_708, fl_ BK692 NB692_708, bp_ BK708, bw_ HB⟩
                  ·rw [if_neg c112] at H
                   have c112b0 : (t677 == 0) = false := beq_eq_false_iff_ne.mpr c112
                   have c112b1 : (t677 != 0) = true := bne_iff_ne.mpr c112
                   (first | rw [c112b0] | (simp only [i64_w, i32_w]; rw [c112b0]) | skip)
                   have H' := Aside0.mk H
                   clear H
                   go_wp2
                   go_meet
                   case rel => exact ⟨_, (true), en_, H', ⟨by have := HJ6.out; have := HJ29.out; have := HJ40.out; have := HJ48.out; have := HJ67.out; first | omega | exact Nat.le_refl _⟩, fl_ BK665 NB665_708, fl_ BK670 NB670_708, fl_ BK675 NB675_708, fl_ BK691 NB691_708, fl_ BK692 NB692_708, bp_ BK708, bw_ HB⟩
                 case rest => as_aux_lemma =>
                  clear HC98
                  try clear c1
                  try clear c2
                  try clear p2
                  try clear c3
                  try clear c4
                  try clear c5
                  try clear c6
                  try clear c7
                  try clear c8
                  try clear c9
                  try clear c10
                  try clear c11
                  try clear c12
                  try clear c13
                  try clear c14
                  try clear c15
                  try clear c16
                  try clear c17
                  try clear c18
                  try clear c19
                  try clear c21
                  try clear c21b0
                  try clear c21b1
                  try clear c22
                  try clear c23
                  try clear c25
                  try clear c27
                  try clear c31
                  try clear c32
                  try clear c37
                  try clear c37b0
                  try clear c37b1
                  try clear c38
                  try clear c44
                  try clear c44b0
                  try clear c44b1
                  try clear c45
                  try clear c53
                  try clear c54
                  try clear c55
                  try clear c56
                  try clear c58
                  try clear c59
                  try clear c60
                  try clear c66
                  try clear c66b0
                  try clear c66b1
                  try clear c67
                  try clear c69
                  try clear c69b0
                  try clear c69b1
                  try clear c72
                  try clear c72b0
                  try clear c72b1
                  try clear c73
                  try clear c73b0
                  try clear c73b1
                  try clear c74
                  try clear c74b0
                  try clear c74b1
                  try clear c75
                  try clear c75b0
                  try clear c76
                  try clear c77
                  try clear c78
                  try clear c79
                  try clear c81
                  try clear c82
                  try clear c83
                  try clear c89
                  try clear c90
                  try clear c91
                  try clear c92
                  try clear c93
                  try clear c96
                  try clear c96b0
                  try clear c96b1
                  try clear c99
                  try clear c100
                  try clear c101
                  try clear c102
                  try clear c106
                  try clear c107
                  try clear c108
                  try clear c109
                  try clear c110
                  try clear c112
                  try clear c112b0
                  try clear c112b1
                  try clear c113
                  try clear c113b0
                  try clear c113b1
                  try clear c114
                  try clear c114b0
                  try clear c115
                  try clear c116
                  try clear c117
                  try clear c118
                  try clear c119
                  try clear c121
                  try clear c122
                  try clear c123
                  try clear c124
                  try clear c126
                  try clear c127
                  try clear c128
                  try clear c129
                  try clear c130
                  try clear c132
                  try clear c133
                  try clear c134
                  try clear c135
                  try clear hcz103_0 hcz103_1 hcz103_2
                  try clear hcz10_0 hcz10_1 hcz10_2
                  try clear hcz111_0 hcz111_1 hcz111_2
                  try clear hcz120_0 hcz120_1 hcz120_2
                  try clear hcz125_0 hcz125_1 hcz125_2
                  try clear hcz131_0 hcz131_1 hcz131_2
                  try clear hcz136_0 hcz136_1 hcz136_2
                  try clear hcz14_0 hcz14_1 hcz14_2
                  try clear hcz15_0 hcz15_1 hcz15_2
                  try clear hcz20_0 hcz20_1 hcz20_2
                  try clear hcz24_0 hcz24_1 hcz24_2
                  try clear hcz26_0 hcz26_1 hcz26_2
                  try clear hcz33_0 hcz33_1 hcz33_2
                  try clear hcz35_0 hcz35_1 hcz35_2
                  try clear hcz57_0 hcz57_1 hcz57_2
                  try clear hcz61_0 hcz61_1 hcz61_2
                  try clear hcz63_0 hcz63_1 hcz63_2
                  try clear hcz64_0 hcz64_1 hcz64_2
                  try clear hcz80_0 hcz80_1 hcz80_2
                  try clear hcz84_0 hcz84_1 hcz84_2
                  try clear hcz86_0 hcz86_1 hcz86_2
                  try clear hcz94_0 hcz94_1 hcz94_2
                  try clear hcz95_0 hcz95_1 hcz95_2
                  try clear hfz103_0 hfz103_1 hfz103_2
                  try clear hfz10_0 hfz10_1 hfz10_2
                  try clear hfz111_0 hfz111_1 hfz111_2
                  try clear hfz120_0 hfz120_1 hfz120_2
                  try clear hfz125_0 hfz125_1 hfz125_2
                  try clear hfz131_0 hfz131_1 hfz131_2
                  try clear hfz136_0 hfz136_1 hfz136_2
                  try clear hfz14_0 hfz14_1 hfz14_2
                  try clear hfz15_0 hfz15_1 hfz15_2
                  try clear hfz20_0 hfz20_1 hfz20_2
                  try clear hfz24_0 hfz24_1 hfz24_2
                  try clear hfz26_0 hfz26_1 hfz26_2
                  try clear hfz33_0 hfz33_1 hfz33_2
                  try clear hfz35_0 hfz35_1 hfz35_2
                  try clear hfz57_0 hfz57_1 hfz57_2
                  try clear hfz61_0 hfz61_1 hfz61_2
                  try clear hfz63_0 hfz63_1 hfz63_2
                  try clear hfz64_0 hfz64_1 hfz64_2
                  try clear hfz80_0 hfz80_1 hfz80_2
                  try clear hfz84_0 hfz84_1 hfz84_2
                  try clear hfz86_0 hfz86_1 hfz86_2
                  try clear hfz94_0 hfz94_1 hfz94_2
                  try clear hfz95_0 hfz95_1 hfz95_2
                  try clear p2
                  obtain ⟨kq, x199_97, rfl, HA, HJ97, BK665, BK670, BK675, BK691, BK692, BK708, HB⟩ := hcut
                  cases kq with
                  | zero => exact absurd HA.out (by simp [laws_FnSteps.j5])
                  | succ kj97 =>
                   have H := HA.out
                   clear HA
                   simp only [laws_FnSteps.j5] at H
                   by_cases c137 : x199_97 = true
                   ·subst c137
                    have H1 : (none) = some r := by rw [if_pos rfl] at H; exact H
                    clear H
                    have H := H1
                    clear H1
                    exact absurd H (by simp)
                   ·replace c137 := Bool.eq_false_iff.mpr c137
                    subst c137
                    have H1 : ((impl_FollowSteps.f kj97 t660 t661 t662 t663 t680).bind fun bt709 => ((impl_NormalSteps.f kj97 t660 t680).bind fun bt714 => (if bt709.2.2.2 = 0 then (if (bt709.1 == t666 && (bt709.2.1 == t667 && (bt709.2.2.1 == t668))) = true then (if bt714.2 = 0 then (some (bt714.1.toList == t680.toList)) else (none)) else (none)) else (if bt714.2 = 0 then (some (bt714.1.toList == t680.toList)) else (none))))) = some r := by rw [if_neg (show ¬ (false = true) by decide)] at H; exact H
                    clear H
                    have H := H1
                    clear H1
                    replace H := ob_ H
                    obtain ⟨⟨t709, t710, t711, t712⟩, A1380, H⟩ := H
                    have A138 := Aside0.mk A1380
                    clear A1380
                    replace H := ob_ H
                    obtain ⟨⟨t714, t715⟩, A1390, H⟩ := H
                    have A139 := Aside0.mk A1390
                    clear A1390
                    by_cases c140 : t712 = 0
                    ·rw [if_pos c140] at H
                     have c140b0 : (t712 == 0) = true := beq_iff_eq.mpr c140
                     have c140b1 : (t712 != 0) = false := bne_eq_false_iff_eq.mpr c140
                     clear c140
                     by_cases c141 : (t709 == t666 && (t710 == t667 && (t711 == t668))) = true
                     ·rw [if_pos c141] at H
                      have c141b0 : (t709 == t666 && (t710 == t667 && (t711 == t668))) = true := c141
                      (try (have c141b1 : decide (t709 = t666 && (t710 == t667 && (t711 == t668))) = true := by simpa using c141))
                      (try (have c141b2 : (t709 == t666 && (t710 == t667 && (t711 == t668))) = true := by simpa using c141))
                      clear c141
                      by_cases c142 : t715 = 0
                      ·rw [if_pos c142] at H
                       have c142b0 : (t715 == 0) = true := beq_iff_eq.mpr c142
                       have c142b1 : (t715 != 0) = false := bne_eq_false_iff_eq.mpr c142
                       clear c142
                       obtain rfl := si_ H
                       have hnb143 := NB665_670.out
                       have hnc143 := NB670_665.out
                       have hnb144 := NB665_675.out
                       have hnc144 := NB675_665.out
                       have hnb145 := NB665_691.out
                       have hnc145 := NB691_665.out
                       have hnb146 := NB665_692.out
                       have hnc146 := NB692_665.out
                       have hnb147 := NB665_708.out
                       have hnc147 := NB708_665.out
                       obtain ⟨hcz148_0, hcz148_1, hcz148_2, hfz148_0, hfz148_1, hfz148_2⟩ := ch3_ BK665
                       go_wp2_with (first | ((refine gc_ 10 ?_); refine ge_ 204 Try.func10 #[.int .i64 t660, .agg #[.int .i64 t661, .int .i64 t662, .int .i64 t663], .string t680] ?_; (with_reducible refine (impl_FollowSteps.calls kj97 t660 t661 t662 t663 t680 t709 t710 t711 t712 _ A138.out).mono ?_); rintro e w149 ⟨rfl, hb⟩; refine ⟨_, rfl, ?_⟩; replace BK665 := bb_ BK665 hb; replace BK670 := bb_ BK670 hb; replace BK675 := bb_ BK675 hb; replace BK691 := bb_ BK691 hb; replace BK692 := bb_ BK692 hb; replace BK708 := bb_ BK708 hb; replace HB := bt_ HB hb; (try clear hb)) | ((refine gd_ 31 ?_); (try (refine gate_guard (by rfl) ?_; dsimp only)); refine bx_ 31 #[.int .i64 0, .int .i64 0, .int .i64 0] 25 ?_; intro gb713 hg w150 BK713 hb; have GW713 := bs_ HB hg; have GE713 := bs_ HB hg; have NB665_713 := bm_ BK665 hg; have NB713_665 := bn_ BK665 hg; have NB670_713 := bm_ BK670 hg; have NB713_670 := bn_ BK670 hg; have NB675_713 := bm_ BK675 hg; have NB713_675 := bn_ BK675 hg; have NB691_713 := bm_ BK691 hg; have NB713_691 := bn_ BK691 hg; have NB692_713 := bm_ BK692 hg; have NB713_692 := bn_ BK692 hg; have NB708_713 := bm_ BK708 hg; have NB713_708 := bn_ BK708 hg; replace BK665 := bb_ BK665 hb; replace BK670 := bb_ BK670 hb; replace BK675 := bb_ BK675 hb; replace BK691 := bb_ BK691 hb; replace BK692 := bb_ BK692 hb; replace BK708 := bb_ BK708 hb; replace HB := bt_ HB hb; clear hb hg; have hnb151 := NB713_665.out; have hnc151 := NB665_713.out; have hnb152 := NB713_670.out; have hnc152 := NB670_713.out; have hnb153 := NB713_675.out; have hnc153 := NB675_713.out; have hnb154 := NB713_691.out; have hnc154 := NB691_713.out; have hnb155 := NB713_692.out; have hnc155 := NB692_713.out; have hnb156 := NB713_708.out; have hnc156 := NB708_713.out; obtain ⟨hcz157_0, hcz157_1, hcz157_2, hfz157_0, hfz157_1, hfz157_2⟩ := ch3_ BK713) | ((refine gc_ 14 ?_); refine ge_ 210 Try.func14 #[.int .i64 t660, .string t680] ?_; (with_reducible refine (impl_NormalSteps.calls kj97 t660 t680 t714 t715 _ A139.out).mono ?_); rintro e w158 ⟨rfl, hb⟩; refine ⟨_, rfl, ?_⟩; replace BK665 := fb_ BK665 NB665_713 hb; replace BK670 := fb_ BK670 NB670_713 hb; replace BK675 := fb_ BK675 NB675_713 hb; replace BK691 := fb_ BK691 NB691_713 hb; replace BK692 := fb_ BK692 NB692_713 hb; replace BK708 := fb_ BK708 NB708_713 hb; replace BK713 := Aside0.mk (blk_below (g := gb713) (o := .cells #[.int .i64 t709, .int .i64 t710, .int .i64 t711] 25 (0, 0)) (bp_ BK713).out hb); replace HB := bt_ HB hb; (try clear hb); obtain ⟨hcz159_0, hcz159_1, hcz159_2, hfz159_0, hfz159_1, hfz159_2⟩ := ch3_ BK713; have hnb160 := NB670_675.out; have hnc160 := NB675_670.out; have hnb161 := NB670_691.out; have hnc161 := NB691_670.out; have hnb162 := NB670_692.out; have hnc162 := NB692_670.out; have hnb163 := NB670_708.out; have hnc163 := NB708_670.out; obtain ⟨hcz164_0, hcz164_1, hcz164_2, hfz164_0, hfz164_1, hfz164_2⟩ := ch3_ BK670))
                       go_ret
                       exact ⟨es_, (bw_ HB).out⟩
                      ·rw [if_neg c142] at H
                       exact absurd H (by simp)
                     ·rw [if_neg c141] at H
                      exact absurd H (by simp)
                    ·rw [if_neg c140] at H
                     have c140b0 : (t712 == 0) = false := beq_eq_false_iff_ne.mpr c140
                     have c140b1 : (t712 != 0) = true := bne_iff_ne.mpr c140
                     by_cases c165 : t715 = 0
                     ·rw [if_pos c165] at H
                      have c165b0 : (t715 == 0) = true := beq_iff_eq.mpr c165
                      have c165b1 : (t715 != 0) = false := bne_eq_false_iff_eq.mpr c165
                      clear c165
                      obtain rfl := si_ H
                      have hnb166 := NB665_670.out
                      have hnc166 := NB670_665.out
                      have hnb167 := NB665_675.out
                      have hnc167 := NB675_665.out
                      have hnb168 := NB665_691.out
                      have hnc168 := NB691_665.out
                      have hnb169 := NB665_692.out
                      have hnc169 := NB692_665.out
                      have hnb170 := NB665_708.out
                      have hnc170 := NB708_665.out
                      obtain ⟨hcz171_0, hcz171_1, hcz171_2, hfz171_0, hfz171_1, hfz171_2⟩ := ch3_ BK665
                      go_wp2_with (first | ((refine gc_ 10 ?_); refine ge_ 204 Try.func10 #[.int .i64 t660, .agg #[.int .i64 t661, .int .i64 t662, .int .i64 t663], .string t680] ?_; (with_reducible refine (impl_FollowSteps.calls kj97 t660 t661 t662 t663 t680 t709 t710 t711 t712 _ A138.out).mono ?_); rintro e w172 ⟨rfl, hb⟩; refine ⟨_, rfl, ?_⟩; replace BK665 := bb_ BK665 hb; replace BK670 := bb_ BK670 hb; replace BK675 := bb_ BK675 hb; replace BK691 := bb_ BK691 hb; replace BK692 := bb_ BK692 hb; replace BK708 := bb_ BK708 hb; replace HB := bt_ HB hb; (try clear hb)) | ((refine gd_ 31 ?_); (try (refine gate_guard (by rfl) ?_; dsimp only)); refine bx_ 31 #[.int .i64 0, .int .i64 0, .int .i64 0] 25 ?_; intro gb713 hg w173 BK713 hb; have GW713 := bs_ HB hg; have GE713 := bs_ HB hg; have NB665_713 := bm_ BK665 hg; have NB713_665 := bn_ BK665 hg; have NB670_713 := bm_ BK670 hg; have NB713_670 := bn_ BK670 hg; have NB675_713 := bm_ BK675 hg; have NB713_675 := bn_ BK675 hg; have NB691_713 := bm_ BK691 hg; have NB713_691 := bn_ BK691 hg; have NB692_713 := bm_ BK692 hg; have NB713_692 := bn_ BK692 hg; have NB708_713 := bm_ BK708 hg; have NB713_708 := bn_ BK708 hg; replace BK665 := bb_ BK665 hb; replace BK670 := bb_ BK670 hb; replace BK675 := bb_ BK675 hb; replace BK691 := bb_ BK691 hb; replace BK692 := bb_ BK692 hb; replace BK708 := bb_ BK708 hb; replace HB := bt_ HB hb; clear hb hg; have hnb174 := NB713_665.out; have hnc174 := NB665_713.out; have hnb175 := NB713_670.out; have hnc175 := NB670_713.out; have hnb176 := NB713_675.out; have hnc176 := NB675_713.out; have hnb177 := NB713_691.out; have hnc177 := NB691_713.out; have hnb178 := NB713_692.out; have hnc178 := NB692_713.out; have hnb179 := NB713_708.out; have hnc179 := NB708_713.out; obtain ⟨hcz180_0, hcz180_1, hcz180_2, hfz180_0, hfz180_1, hfz180_2⟩ := ch3_ BK713) | ((refine gc_ 14 ?_); refine ge_ 210 Try.func14 #[.int .i64 t660, .string t680] ?_; (with_reducible refine (impl_NormalSteps.calls kj97 t660 t680 t714 t715 _ A139.out).mono ?_); rintro e w181 ⟨rfl, hb⟩; refine ⟨_, rfl, ?_⟩; replace BK665 := fb_ BK665 NB665_713 hb; replace BK670 := fb_ BK670 NB670_713 hb; replace BK675 := fb_ BK675 NB675_713 hb; replace BK691 := fb_ BK691 NB691_713 hb; replace BK692 := fb_ BK692 NB692_713 hb; replace BK708 := fb_ BK708 NB708_713 hb; replace BK713 := Aside0.mk (blk_below (g := gb713) (o := .cells #[.int .i64 t709, .int .i64 t710, .int .i64 t711] 25 (0, 0)) (bp_ BK713).out hb); replace HB := bt_ HB hb; (try clear hb)))
                      go_ret
                      exact ⟨es_, (bw_ HB).out⟩
                     ·rw [if_neg c165] at H
                      exact absurd H (by simp)
                ·rw [if_neg c96] at H
                 have c96b0 : (t669 == 0) = false := beq_eq_false_iff_ne.mpr c96
                 have c96b1 : (t669 != 0) = true := bne_iff_ne.mpr c96
                 by_cases c182 : (t666 == 0 && (t667 == 0 && (t668 == 0))) = true
                 ·rw [if_pos c182] at H
                  have c182b0 : (t666 == 0 && (t667 == 0 && (t668 == 0))) = true := c182
                  (try (have c182b1 : decide (t666 = 0 && (t667 == 0 && (t668 == 0))) = true := by simpa using c182))
                  (try (have c182b2 : (t666 == 0 && (t667 == 0 && (t668 == 0))) = true := by simpa using c182))
                  clear c182
                  obtain rfl := si_ H
                  have hnb183 := NB670_665.out
                  have hnc183 := NB665_670.out
                  have hnb184 := NB670_675.out
                  have hnc184 := NB675_670.out
                  have hnb185 := NB670_691.out
                  have hnc185 := NB691_670.out
                  have hnb186 := NB670_692.out
                  have hnc186 := NB692_670.out
                  obtain ⟨hcz187_0, hcz187_1, hcz187_2, hfz187_0, hfz187_1, hfz187_2⟩ := ch3_ BK670
                  go_wp2
                  go_ret
                  exact ⟨es_, (bw_ HB).out⟩
                 ·rw [if_neg c182] at H
                  exact absurd H (by simp)

/-- THE ONE PURE STATEMENT of laws_FnSteps: yours. -/
def laws_FnSteps.Pure : Prop := ∀ (l0 : List Int), l0.length ≤ maxLen → l0.length * 1 ≤ 140737488351232 → (∀ x ∈ l0, (Lit.int .u8 x).wf = true) → ∃ k, laws_FnSteps.f k l0 = some true
theorem laws_FnSteps.walk (P : laws_FnSteps.Pure) (a0 : Option Addr) (len0 cap0 : Nat) (z0 : List Int) (w : World) (w0 : (a0 = none ∧ len0 = 0 ∧ cap0 = 0 ∧ z0 = []) ∨ ∃ x, a0 = some x ∧ len0 ≤ cap0 ∧ cap0 ≤ maxLen ∧ z0.length = cap0 ∧ (∀ i, i < z0.length → w.cell? (x.add i) = some (.int .u8 (z0.getD i 0))) ∧ ∀ n ∈ z0, (Lit.int .u8 n).wf = true) (y0 : len0 * 1 ≤ 140737488351232) :
  Calls Try.prog 3 #[.slice a0 len0 cap0] w fun e w' => e = .returned (.bool true) ∧ Below w.heap.size w w' := by
 obtain ⟨l0, rfl, hr0, hm0, hw0, hc0⟩ := ReadsInt.ofRowC w0
 obtain ⟨k, h⟩ := P l0 hm0 y0 hw0
 refine (laws_FnSteps.calls k _ _ l0 true w (Kd.C_of_reads (d := (0 : Int)) (h1 := fun _ => rfl) hr0) hc0 h).mono ?_
 rintro e w' ⟨rfl, hd⟩
 exact ⟨rfl, hd⟩
end Go.Proofs.Ytgoeelhiffbjlaa.QR
