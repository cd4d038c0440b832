-- Written by a program of this session out of Lean's own print of the loaded program; Lean checks it.
import Derived.Test.YtojpcbbmbnmchaaQCx4
import Derived.Test.YtojpcbbmbnmchaaQCx15
import Derived.Test.YtojpcbbmbnmchaaQCx20
import Derived.Test.YtojpcbbmbnmchaaQCx23
import Derived.Test.YtojpcbbmbnmchaaQCx62
import Derived.Test.YtojpcbbmbnmchaaQCx38
import Derived.Test.YtojpcbbmbnmchaaQCx45
namespace Go.Proofs.Ytojpcbbmbnmchaa.QC
open Go.RowKit Go.Proofs.YtojpcbbmbnmchaaW.PrintWords Go.Proofs.YtojpcbbmbnmchaaW.PrintLast Go.Proofs.YtojpcbbmbnmchaaW.PrintMore
attribute [local go_sem] isSome_setCell max2_int min2_int max_two min_two max_three min_three max_four min_four   -- for this text's walks alone
set_option linter.unusedVariables false
set_option linter.unusedSimpArgs false

/-! ### spec_StepsOfMatrix: function 19 -/
def spec_StepsOfMatrix.j0 : Nat → Int → Bool → Int → Int → Int → Option (ByteArray × Int)
 | 0, _, _, _, _, _ => none
 | k + 1, x0, x37, x467000, x467001, x467002 => if x37 = true then (some ((⟨#[]⟩ : ByteArray), 3)) else ((spec_l10Way.f k x0 0 0 0 x467000 x467001 x467002).bind fun bt473 => (if bt473.2 = true then (some (bt473.1, 0)) else (some ((⟨#[]⟩ : ByteArray), 3))))
def spec_StepsOfMatrix.f (k : Nat) (a0 : Int) (a1_0 : Int) (a1_1 : Int) (a1_2 : Int) (a1_3 : Int) : Option (ByteArray × Int) := (spec_l04Code.f k a0 a1_0 a1_1 a1_2 a1_3 ([] : List (S28))).bind fun t461 => (if t461 = 0 then ((spec_l04Move.f k a0 a1_0 a1_1 a1_2 a1_3 0 0 0).bind fun bt462 => ((spec_l10Triangular.f k a0 a1_0 a1_1 a1_2 a1_3).bind fun bt467 => (if bt462.2.2.2 = true then (spec_StepsOfMatrix.j0 k a0 (!bt467.2.2.2.2) bt462.1 bt462.2.1 bt462.2.2.1) else (spec_StepsOfMatrix.j0 k a0 true bt462.1 bt462.2.1 bt462.2.2.1)))) else (some ((⟨#[]⟩ : ByteArray), t461)))
set_option maxHeartbeats 8000000 in
set_option maxRecDepth 100000 in
theorem spec_StepsOfMatrix.calls (k : Nat) (a0 : Int) (a1_0 : Int) (a1_1 : Int) (a1_2 : Int) (a1_3 : Int) (r1 : ByteArray) (r2 : Int) (w : World) (h : spec_StepsOfMatrix.f k a0 a1_0 a1_1 a1_2 a1_3 = some (r1, r2)) :
  Calls Try.prog 19 #[.int .i64 a0, .agg #[.int .i64 a1_0, .int .i64 a1_1, .int .i64 a1_2, .int .i64 a1_3]] w fun e w' => e = .returned (.tuple #[.string r1, .int .i64 r2]) ∧ Below w.heap.size w w' := by
 have hu33 := Try.underlying33
 have hu28 := Try.underlying28
 have HB := Aside0.mk (Below.refl w.heap.size w)
 have H : ((spec_l04Code.f k a0 a1_0 a1_1 a1_2 a1_3 ([] : List (S28))).bind fun t461 => (if t461 = 0 then ((spec_l04Move.f k a0 a1_0 a1_1 a1_2 a1_3 0 0 0).bind fun bt462 => ((spec_l10Triangular.f k a0 a1_0 a1_1 a1_2 a1_3).bind fun bt467 => (if bt462.2.2.2 = true then (spec_StepsOfMatrix.j0 k a0 (!bt467.2.2.2.2) bt462.1 bt462.2.1 bt462.2.2.1) else (spec_StepsOfMatrix.j0 k a0 true bt462.1 bt462.2.1 bt462.2.2.1)))) else (some ((⟨#[]⟩ : ByteArray), t461)))) = some (r1, r2) := h
 clear h
 replace H := Option.bind_eq_some_iff.mp H
 obtain ⟨t461, A30, H⟩ := H
 have A3 := Aside0.mk A30
 clear A30
 by_cases c4 : t461 = 0
 ·rw [if_pos c4] at H
  have c4b0 : (t461 == 0) = true := beq_iff_eq.mpr c4
  have c4b1 : (t461 != 0) = false := bne_eq_false_iff_eq.mpr c4
  clear c4
  replace H := Option.bind_eq_some_iff.mp H
  obtain ⟨⟨t462, t463, t464, t465⟩, A50, H⟩ := H
  have A5 := Aside0.mk A50
  clear A50
  replace H := Option.bind_eq_some_iff.mp H
  obtain ⟨⟨t467, t468, t469, t470, t471⟩, A60, H⟩ := H
  have A6 := Aside0.mk A60
  clear A60
  have HC7 := Aside0.mk H
  clear H
  go_enter Try.func19, Try.ntmps19
  go_upto_region 6 with (first | ((with_reducible refine gate_dst (N := 3) rfl ?_); refine bx_ 3 #[.int .i64 a1_0, .int .i64 a1_1, .int .i64 a1_2, .int .i64 a1_3] 33 ?_; intro gb460 hg w8 hbox hb; have BK460 := Aside0.mk (hbox); have GW460 := bs_ HB hg; have GE460 := bs_ HB hg; replace HB := bt_ HB hb; clear hb hbox hg; have hcz9_0 : w8.cell? ⟨gb460, 0, none⟩ = some (.int .i64 a1_0) := (blk_cell BK460.out 0).trans rfl; have hcz9_1 : w8.cell? ⟨gb460, 1, none⟩ = some (.int .i64 a1_1) := (blk_cell BK460.out 1).trans rfl; have hcz9_2 : w8.cell? ⟨gb460, 2, none⟩ = some (.int .i64 a1_2) := (blk_cell BK460.out 2).trans rfl; have hcz9_3 : w8.cell? ⟨gb460, 3, none⟩ = some (.int .i64 a1_3) := (blk_cell BK460.out 3).trans rfl; have hfz9_0 := blk_frozen BK460.out 0; have hfz9_1 := blk_frozen BK460.out 1; have hfz9_2 := blk_frozen BK460.out 2; have hfz9_3 := blk_frozen BK460.out 3) | ((with_reducible refine gate_callee (f := 42) rfl ?_); refine goesL_ (some 15) rfl rfl Try.func42 (by kernel_rfl) rfl #[.int .i64 a0, .agg #[.int .i64 a1_0, .int .i64 a1_1, .int .i64 a1_2, .int .i64 a1_3], .slice none 0 0] rfl (by (try simp only [List.map_toArray, List.map_cons, List.map_nil]); first | done | rfl | (simp only [List.length_drop, List.length_take]; rfl)) ?_; (refine (spec_l04Code.calls k a0 a1_0 a1_1 a1_2 a1_3 _ _ ([] : List (S28)) t461 _ ?side1 ?side2 A3.out).mono ?_); (case side1 => exact Kd.C_nil _ _); (case side2 => exact Nat.le_refl _); rintro e w10 ⟨rfl, hb⟩; refine ⟨_, rfl, ?_⟩; replace BK460 := bb_ BK460 hb; replace HB := bt_ HB hb; (try clear hb); (try clear hb2); (try clear hk); (try clear hi); have hcz11_0 : w10.cell? ⟨gb460, 0, none⟩ = some (.int .i64 a1_0) := (blk_cell BK460.out 0).trans rfl; have hcz11_1 : w10.cell? ⟨gb460, 1, none⟩ = some (.int .i64 a1_1) := (blk_cell BK460.out 1).trans rfl; have hcz11_2 : w10.cell? ⟨gb460, 2, none⟩ = some (.int .i64 a1_2) := (blk_cell BK460.out 2).trans rfl; have hcz11_3 : w10.cell? ⟨gb460, 3, none⟩ = some (.int .i64 a1_3) := (blk_cell BK460.out 3).trans rfl; have hfz11_0 := blk_frozen BK460.out 0; have hfz11_1 := blk_frozen BK460.out 1; have hfz11_2 := blk_frozen BK460.out 2; have hfz11_3 := blk_frozen BK460.out 3) | ((with_reducible refine gate_callee (f := 52) rfl ?_); refine goesL_ (some 23) rfl rfl Try.func52 (by kernel_rfl) rfl #[.int .i64 a0, .agg #[.int .i64 a1_0, .int .i64 a1_1, .int .i64 a1_2, .int .i64 a1_3], .agg #[.int .i64 0, .int .i64 0, .int .i64 0]] rfl (by (try simp only [List.map_toArray, List.map_cons, List.map_nil]); first | done | rfl | (simp only [List.length_drop, List.length_take]; rfl)) ?_; (with_reducible refine (spec_l04Move.calls k a0 a1_0 a1_1 a1_2 a1_3 0 0 0 t462 t463 t464 t465 _ A5.out).mono ?_); rintro e w12 ⟨rfl, hb⟩; refine ⟨_, rfl, ?_⟩; replace BK460 := bb_ BK460 hb; replace HB := bt_ HB hb; (try clear hb); (try clear hb2); (try clear hk); (try clear hi)) | ((with_reducible refine gate_dst (N := 7) rfl ?_); refine bx_ 7 #[.int .i64 0, .int .i64 0, .int .i64 0] 28 ?_; intro gb466 hg w13 hbox hb; have BK466 := Aside0.mk (hbox); have GW466 := bs_ HB hg; have GE466 := bs_ HB hg; have NB460_466 := bm_ BK460 hg; have NB466_460 := bn_ BK460 hg; replace BK460 := bb_ BK460 hb; replace HB := bt_ HB hb; clear hb hbox hg; have hnb14 := NB466_460.out; have hnc14 := NB460_466.out; have hcz15_0 : w13.cell? ⟨gb466, 0, none⟩ = some (.int .i64 0) := (blk_cell BK466.out 0).trans rfl; have hcz15_1 : w13.cell? ⟨gb466, 1, none⟩ = some (.int .i64 0) := (blk_cell BK466.out 1).trans rfl; have hcz15_2 : w13.cell? ⟨gb466, 2, none⟩ = some (.int .i64 0) := (blk_cell BK466.out 2).trans rfl; have hfz15_0 := blk_frozen BK466.out 0; have hfz15_1 := blk_frozen BK466.out 1; have hfz15_2 := blk_frozen BK466.out 2; have hcz16_0 : w13.cell? ⟨gb460, 0, none⟩ = some (.int .i64 a1_0) := (blk_cell BK460.out 0).trans rfl; have hcz16_1 : w13.cell? ⟨gb460, 1, none⟩ = some (.int .i64 a1_1) := (blk_cell BK460.out 1).trans rfl; have hcz16_2 : w13.cell? ⟨gb460, 2, none⟩ = some (.int .i64 a1_2) := (blk_cell BK460.out 2).trans rfl; have hcz16_3 : w13.cell? ⟨gb460, 3, none⟩ = some (.int .i64 a1_3) := (blk_cell BK460.out 3).trans rfl; have hfz16_0 := blk_frozen BK460.out 0; have hfz16_1 := blk_frozen BK460.out 1; have hfz16_2 := blk_frozen BK460.out 2; have hfz16_3 := blk_frozen BK460.out 3) | ((with_reducible refine gate_callee (f := 43) rfl ?_); refine goesL_ (some 29) rfl rfl Try.func43 (by kernel_rfl) rfl #[.int .i64 a0, .agg #[.int .i64 a1_0, .int .i64 a1_1, .int .i64 a1_2, .int .i64 a1_3]] rfl (by (try simp only [List.map_toArray, List.map_cons, List.map_nil]); first | done | rfl | (simp only [List.length_drop, List.length_take]; rfl)) ?_; (with_reducible refine (spec_l10Triangular.calls k a0 a1_0 a1_1 a1_2 a1_3 t467 t468 t469 t470 t471 _ A6.out).mono ?_); rintro e w17 ⟨rfl, hb⟩; refine ⟨_, rfl, ?_⟩; replace BK460 := Aside0.mk (blk_below (g := gb460) (o := .cells #[.int .i64 a1_0, .int .i64 a1_1, .int .i64 a1_2, .int .i64 a1_3] 33 (0, 0)) (by (with_reducible repeat first | apply blk_drewN | apply blk_drew | apply blk_alloc); refine blk_far ?_ NB460_466.out _; (with_reducible repeat first | apply blk_drewN | apply blk_drew | apply blk_alloc); refine blk_far ?_ NB460_466.out _; (with_reducible repeat first | apply blk_drewN | apply blk_drew | apply blk_alloc); refine blk_far ?_ NB460_466.out _; (with_reducible repeat first | apply blk_drewN | apply blk_drew | apply blk_alloc); exact BK460.out) hb); replace BK466 := Aside0.mk (blk_below (g := gb466) (o := .cells #[.int .i64 t462, .int .i64 t463, .int .i64 t464] 28 (0, 0)) (by (with_reducible repeat first | apply blk_drewN | apply blk_drew | apply blk_alloc); refine blk_put (cs := #[.int .i64 t462, .int .i64 t463, .int .i64 0]) ?_ 2 _ rfl; (with_reducible repeat first | apply blk_drewN | apply blk_drew | apply blk_alloc); refine blk_put (cs := #[.int .i64 t462, .int .i64 0, .int .i64 0]) ?_ 1 _ rfl; (with_reducible repeat first | apply blk_drewN | apply blk_drew | apply blk_alloc); refine blk_put (cs := #[.int .i64 0, .int .i64 0, .int .i64 0]) ?_ 0 _ rfl; (with_reducible repeat first | apply blk_drewN | apply blk_drew | apply blk_alloc); exact BK466.out) hb); replace HB := bt_ HB hb; (try clear hb); (try clear hb2); (try clear hk); (try clear hi)) | ((with_reducible refine gate_dst (N := 9) rfl ?_); refine bx_ 9 #[.int .i64 0, .int .i64 0, .int .i64 0, .int .i64 0] 33 ?_; intro gb472 hg w18 hbox hb; have BK472 := Aside0.mk (hbox); have GW472 := bs_ HB hg; have GE472 := bs_ HB hg; have NB460_472 := bm_ BK460 hg; have NB472_460 := bn_ BK460 hg; have NB466_472 := bm_ BK466 hg; have NB472_466 := bn_ BK466 hg; replace BK460 := bb_ BK460 hb; replace BK466 := bb_ BK466 hb; replace HB := bt_ HB hb; clear hb hbox hg; have hnb19 := NB472_460.out; have hnc19 := NB460_472.out; have hnb20 := NB472_466.out; have hnc20 := NB466_472.out; have hcz21_0 : w18.cell? ⟨gb472, 0, none⟩ = some (.int .i64 0) := (blk_cell BK472.out 0).trans rfl; have hcz21_1 : w18.cell? ⟨gb472, 1, none⟩ = some (.int .i64 0) := (blk_cell BK472.out 1).trans rfl; have hcz21_2 : w18.cell? ⟨gb472, 2, none⟩ = some (.int .i64 0) := (blk_cell BK472.out 2).trans rfl; have hcz21_3 : w18.cell? ⟨gb472, 3, none⟩ = some (.int .i64 0) := (blk_cell BK472.out 3).trans rfl; have hfz21_0 := blk_frozen BK472.out 0; have hfz21_1 := blk_frozen BK472.out 1; have hfz21_2 := blk_frozen BK472.out 2; have hfz21_3 := blk_frozen BK472.out 3))
  (try simp only [Act.put, lstS, lstZ, lstC])
  go_cut [37] (fun v37 wc => ∃ (kq : Nat) (x37_6 : Bool), v37 = .bool x37_6 ∧ Aside0 (spec_StepsOfMatrix.j0 kq a0 x37_6 t462 t463 t464 = some (r1, r2)) ∧ Aside0 (kq ≤ k) ∧ Aside0 (wc.heap[gb460]? = some (.cells #[.int .i64 a1_0, .int .i64 a1_1, .int .i64 a1_2, .int .i64 a1_3] 33 (0, 0))) ∧ Aside0 (wc.heap[gb466]? = some (.cells #[.int .i64 t462, .int .i64 t463, .int .i64 t464] 28 (0, 0))) ∧ Aside0 (wc.heap[gb472]? = some (.cells #[.int .i64 t467, .int .i64 t468, .int .i64 t469, .int .i64 t470] 33 (0, 0))) ∧ Aside0 (Below w.heap.size w wc))
  case first =>
   have H := HC7.out
   clear HC7
   by_cases c22 : t465 = true
   ·subst c22
    have H1 : (spec_StepsOfMatrix.j0 k a0 (!t471) t462 t463 t464) = some (r1, r2) := by rw [if_pos rfl] at H; exact H
    clear H
    have H := H1
    clear H1
    have H' := Aside0.mk H
    clear H
    go_wp2
    go_meet
    case rel => exact ⟨_, (!t471), (by first | rfl | (simp; done) | (simp [*]; done) | (simp [wrap64]; done)), H', ⟨by first | omega | exact Nat.le_refl _⟩, ⟨by (with_reducible repeat first | apply blk_drewN | apply blk_drew | apply blk_alloc); refine blk_far ?_ NB460_472.out _; (with_reducible repeat first | apply blk_drewN | apply blk_drew | apply blk_alloc); refine blk_far ?_ NB460_472.out _; (with_reducible repeat first | apply blk_drewN | apply blk_drew | apply blk_alloc); refine blk_far ?_ NB460_472.out _; (with_reducible repeat first | apply blk_drewN | apply blk_drew | apply blk_alloc); refine blk_far ?_ NB460_472.out _; (with_reducible repeat first | apply blk_drewN | apply blk_drew | apply blk_alloc); exact BK460.out⟩, ⟨by (with_reducible repeat first | apply blk_drewN | apply blk_drew | apply blk_alloc); refine blk_far ?_ NB466_472.out _; (with_reducible repeat first | apply blk_drewN | apply blk_drew | apply blk_alloc); refine blk_far ?_ NB466_472.out _; (with_reducible repeat first | apply blk_drewN | apply blk_drew | apply blk_alloc); refine blk_far ?_ NB466_472.out _; (with_reducible repeat first | apply blk_drewN | apply blk_drew | apply blk_alloc); refine blk_far ?_ NB466_472.out _; (with_reducible repeat first | apply blk_drewN | apply blk_drew | apply blk_alloc); exact BK466.out⟩, ⟨by (with_reducible repeat first | apply blk_drewN | apply blk_drew | apply blk_alloc); refine blk_put (cs := #[.int .i64 t467, .int .i64 t468, .int .i64 t469, .int .i64 0]) ?_ 3 _ rfl; (with_reducible repeat first | apply blk_drewN | apply blk_drew | apply blk_alloc); refine blk_put (cs := #[.int .i64 t467, .int .i64 t468, .int .i64 0, .int .i64 0]) ?_ 2 _ rfl; (with_reducible repeat first | apply blk_drewN | apply blk_drew | apply blk_alloc); refine blk_put (cs := #[.int .i64 t467, .int .i64 0, .int .i64 0, .int .i64 0]) ?_ 1 _ rfl; (with_reducible repeat first | apply blk_drewN | apply blk_drew | apply blk_alloc); refine blk_put (cs := #[.int .i64 0, .int .i64 0, .int .i64 0, .int .i64 0]) ?_ 0 _ rfl; (with_reducible repeat first | apply blk_drewN | apply blk_drew | apply blk_alloc); exact BK472.out⟩, bw_ HB⟩
   ·replace c22 := Bool.eq_false_iff.mpr c22
    subst c22
    have H1 : (spec_StepsOfMatrix.j0 k a0 true t462 t463 t464) = some (r1, r2) := by rw [if_neg (show ¬ (false = true) by decide)] at H; exact H
    clear H
    have H := H1
    clear H1
    have H' := Aside0.mk H
    clear H
    go_wp2
    go_meet
    case rel => exact ⟨_, (true), (by first | rfl | (simp; done) | (simp [*]; done) | (simp [wrap64]; done)), H', ⟨by first | omega | exact Nat.le_refl _⟩, ⟨by (with_reducible repeat first | apply blk_drewN | apply blk_drew | apply blk_alloc); refine blk_far ?_ NB460_472.out _; (with_reducible repeat first | apply blk_drewN | apply blk_drew | apply blk_alloc); refine blk_far ?_ NB460_472.out _; (with_reducible repeat first | apply blk_drewN | apply blk_drew | apply blk_alloc); refine blk_far ?_ NB460_472.out _; (with_reducible repeat first | apply blk_drewN | apply blk_drew | apply blk_alloc); refine blk_far ?_ NB460_472.out _; (with_reducible repeat first | apply blk_drewN | apply blk_drew | apply blk_alloc); exact BK460.out⟩, ⟨by (with_reducible repeat first | apply blk_drewN | apply blk_drew | apply blk_alloc); refine blk_far ?_ NB466_472.out _; (with_reducible repeat first | apply blk_drewN | apply blk_drew | apply blk_alloc); refine blk_far ?_ NB466_472.out _; (with_reducible repeat first | apply blk_drewN | apply blk_drew | apply blk_alloc); refine blk_far ?_ NB466_472.out _; (with_reducible repeat first | apply blk_drewN | apply blk_drew | apply blk_alloc); refine blk_far ?_ NB466_472.out _; (with_reducible repeat first | apply blk_drewN | apply blk_drew | apply blk_alloc); exact BK466.out⟩, ⟨by (with_reducible repeat first | apply blk_drewN | apply blk_drew | apply blk_alloc); refine blk_put (cs := #[.int .i64 t467, .int .i64 t468, .int .i64 t469, .int .i64 0]) ?_ 3 _ rfl; (with_reducible repeat first | apply blk_drewN | apply blk_drew | apply blk_alloc); refine blk_put (cs := #[.int .i64 t467, .int .i64 t468, .int .i64 0, .int .i64 0]) ?_ 2 _ rfl; (with_reducible repeat first | apply blk_drewN | apply blk_drew | apply blk_alloc); refine blk_put (cs := #[.int .i64 t467, .int .i64 0, .int .i64 0, .int .i64 0]) ?_ 1 _ rfl; (with_reducible repeat first | apply blk_drewN | apply blk_drew | apply blk_alloc); refine blk_put (cs := #[.int .i64 0, .int .i64 0, .int .i64 0, .int .i64 0]) ?_ 0 _ rfl; (with_reducible repeat first | apply blk_drewN | apply blk_drew | apply blk_alloc); exact BK472.out⟩, bw_ HB⟩
  case rest =>
   clear HC7
   try clear c1
   try clear c2
   try clear p2
   try clear c4
   try clear c4b0
   try clear c4b1
   try clear c5
   try clear c14
   try clear c19
   try clear c20
   try clear c22
   try clear hcz11_0
   try clear hcz11_1
   try clear hcz11_2
   try clear hcz11_3
   try clear hcz15_0
   try clear hcz15_1
   try clear hcz15_2
   try clear hcz16_0
   try clear hcz16_1
   try clear hcz16_2
   try clear hcz16_3
   try clear hcz21_0
   try clear hcz21_1
   try clear hcz21_2
   try clear hcz21_3
   try clear hcz9_0
   try clear hcz9_1
   try clear hcz9_2
   try clear hcz9_3
   try clear hfz11_0
   try clear hfz11_1
   try clear hfz11_2
   try clear hfz11_3
   try clear hfz15_0
   try clear hfz15_1
   try clear hfz15_2
   try clear hfz16_0
   try clear hfz16_1
   try clear hfz16_2
   try clear hfz16_3
   try clear hfz21_0
   try clear hfz21_1
   try clear hfz21_2
   try clear hfz21_3
   try clear hfz9_0
   try clear hfz9_1
   try clear hfz9_2
   try clear hfz9_3
   obtain ⟨kq, x37_6, rfl, HA, HJ6, BK460, BK466, BK472, HB⟩ := hcut
   cases kq with
   | zero => exact absurd HA.out (by simp [spec_StepsOfMatrix.j0])
   | succ kj6 =>
    have H := HA.out
    clear HA
    simp only [spec_StepsOfMatrix.j0] at H
    by_cases c23 : x37_6 = true
    ·subst c23
     have H1 : (some ((⟨#[]⟩ : ByteArray), 3)) = some (r1, r2) := by rw [if_pos rfl] at H; exact H
     clear H
     have H := H1
     clear H1
     simp only [Option.some.injEq, Prod.mk.injEq] at H
     obtain ⟨rfl, rfl⟩ := H
     go_wp2
     go_ret2
     exact ⟨by first | rfl | (simp [errW_none, errW_some] <;> rfl) | (simp [*, errW_none, errW_some] <;> rfl), by repeat (first | (with_reducible first | exact HB.out | apply below_alloc | apply pw_below_drewN | apply below_drew1 | refine below_set ?_ GE460.out | refine below_set ?_ GE466.out | refine below_set ?_ GE472.out) | exact HB.out)⟩
    ·replace c23 := Bool.eq_false_iff.mpr c23
     subst c23
     have H1 : ((spec_l10Way.f kj6 a0 0 0 0 t462 t463 t464).bind fun bt473 => (if bt473.2 = true then (some (bt473.1, 0)) else (some ((⟨#[]⟩ : ByteArray), 3)))) = some (r1, r2) := by rw [if_neg (show ¬ (false = true) by decide)] at H; exact H
     clear H
     have H := H1
     clear H1
     replace H := Option.bind_eq_some_iff.mp H
     obtain ⟨⟨t473, t474⟩, A240, H⟩ := H
     have A24 := Aside0.mk A240
     clear A240
     by_cases c25 : t474 = true
     ·subst c25
      have H1 : (some (t473, 0)) = some (r1, r2) := by rw [if_pos rfl] at H; exact H
      clear H
      have H := H1
      clear H1
      simp only [Option.some.injEq, Prod.mk.injEq] at H
      obtain ⟨rfl, rfl⟩ := H
      have hnb26 := NB466_460.out
      have hnc26 := NB460_466.out
      have hnb27 := NB466_472.out
      have hnc27 := NB472_466.out
      have hcz28_0 : wc.cell? ⟨gb466, 0, none⟩ = some (.int .i64 t462) := (blk_cell BK466.out 0).trans rfl
      have hcz28_1 : wc.cell? ⟨gb466, 1, none⟩ = some (.int .i64 t463) := (blk_cell BK466.out 1).trans rfl
      have hcz28_2 : wc.cell? ⟨gb466, 2, none⟩ = some (.int .i64 t464) := (blk_cell BK466.out 2).trans rfl
      have hfz28_0 := blk_frozen BK466.out 0
      have hfz28_1 := blk_frozen BK466.out 1
      have hfz28_2 := blk_frozen BK466.out 2
      go_wp2_with (first | ((with_reducible refine gate_callee (f := 53) rfl ?_); refine goesL_ (some 42) rfl rfl Try.func53 (by kernel_rfl) rfl #[.int .i64 a0, .agg #[.int .i64 0, .int .i64 0, .int .i64 0], .agg #[.int .i64 t462, .int .i64 t463, .int .i64 t464]] rfl (by (try simp only [List.map_toArray, List.map_cons, List.map_nil]); first | done | rfl | (simp only [List.length_drop, List.length_take]; rfl)) ?_; (with_reducible refine (spec_l10Way.calls kj6 a0 0 0 0 t462 t463 t464 t473 true _ A24.out).mono ?_); rintro e w29 ⟨rfl, hb⟩; refine ⟨_, rfl, ?_⟩; replace BK460 := bb_ BK460 hb; replace BK466 := bb_ BK466 hb; replace BK472 := bb_ BK472 hb; replace HB := bt_ HB hb; (try clear hb); (try clear hb2); (try clear hk); (try clear hi)))
      go_ret2
      exact ⟨by first | rfl | (simp [errW_none, errW_some] <;> rfl) | (simp [*, errW_none, errW_some] <;> rfl), by repeat (first | (with_reducible first | exact HB.out | apply below_alloc | apply pw_below_drewN | apply below_drew1 | refine below_set ?_ GE460.out | refine below_set ?_ GE466.out | refine below_set ?_ GE472.out) | exact HB.out)⟩
     ·replace c25 := Bool.eq_false_iff.mpr c25
      subst c25
      have H1 : (some ((⟨#[]⟩ : ByteArray), 3)) = some (r1, r2) := by rw [if_neg (show ¬ (false = true) by decide)] at H; exact H
      clear H
      have H := H1
      clear H1
      simp only [Option.some.injEq, Prod.mk.injEq] at H
      obtain ⟨rfl, rfl⟩ := H
      have hnb30 := NB466_460.out
      have hnc30 := NB460_466.out
      have hnb31 := NB466_472.out
      have hnc31 := NB472_466.out
      have hcz32_0 : wc.cell? ⟨gb466, 0, none⟩ = some (.int .i64 t462) := (blk_cell BK466.out 0).trans rfl
      have hcz32_1 : wc.cell? ⟨gb466, 1, none⟩ = some (.int .i64 t463) := (blk_cell BK466.out 1).trans rfl
      have hcz32_2 : wc.cell? ⟨gb466, 2, none⟩ = some (.int .i64 t464) := (blk_cell BK466.out 2).trans rfl
      have hfz32_0 := blk_frozen BK466.out 0
      have hfz32_1 := blk_frozen BK466.out 1
      have hfz32_2 := blk_frozen BK466.out 2
      go_wp2_with (first | ((with_reducible refine gate_callee (f := 53) rfl ?_); refine goesL_ (some 42) rfl rfl Try.func53 (by kernel_rfl) rfl #[.int .i64 a0, .agg #[.int .i64 0, .int .i64 0, .int .i64 0], .agg #[.int .i64 t462, .int .i64 t463, .int .i64 t464]] rfl (by (try simp only [List.map_toArray, List.map_cons, List.map_nil]); first | done | rfl | (simp only [List.length_drop, List.length_take]; rfl)) ?_; (with_reducible refine (spec_l10Way.calls kj6 a0 0 0 0 t462 t463 t464 t473 false _ A24.out).mono ?_); rintro e w33 ⟨rfl, hb⟩; refine ⟨_, rfl, ?_⟩; replace BK460 := bb_ BK460 hb; replace BK466 := bb_ BK466 hb; replace BK472 := bb_ BK472 hb; replace HB := bt_ HB hb; (try clear hb); (try clear hb2); (try clear hk); (try clear hi)))
      go_ret2
      exact ⟨by first | rfl | (simp [errW_none, errW_some] <;> rfl) | (simp [*, errW_none, errW_some] <;> rfl), by repeat (first | (with_reducible first | exact HB.out | apply below_alloc | apply pw_below_drewN | apply below_drew1 | refine below_set ?_ GE460.out | refine below_set ?_ GE466.out | refine below_set ?_ GE472.out) | exact HB.out)⟩
 ·rw [if_neg c4] at H
  have c4b0 : (t461 == 0) = false := beq_eq_false_iff_ne.mpr c4
  have c4b1 : (t461 != 0) = true := bne_iff_ne.mpr c4
  simp only [Option.some.injEq, Prod.mk.injEq] at H
  obtain ⟨rfl, rfl⟩ := H
  go_enter Try.func19, Try.ntmps19
  go_wp2_with (first | ((with_reducible refine gate_dst (N := 3) rfl ?_); refine bx_ 3 #[.int .i64 a1_0, .int .i64 a1_1, .int .i64 a1_2, .int .i64 a1_3] 33 ?_; intro gb460 hg w34 hbox hb; have BK460 := Aside0.mk (hbox); have GW460 := bs_ HB hg; have GE460 := bs_ HB hg; replace HB := bt_ HB hb; clear hb hbox hg; have hcz35_0 : w34.cell? ⟨gb460, 0, none⟩ = some (.int .i64 a1_0) := (blk_cell BK460.out 0).trans rfl; have hcz35_1 : w34.cell? ⟨gb460, 1, none⟩ = some (.int .i64 a1_1) := (blk_cell BK460.out 1).trans rfl; have hcz35_2 : w34.cell? ⟨gb460, 2, none⟩ = some (.int .i64 a1_2) := (blk_cell BK460.out 2).trans rfl; have hcz35_3 : w34.cell? ⟨gb460, 3, none⟩ = some (.int .i64 a1_3) := (blk_cell BK460.out 3).trans rfl; have hfz35_0 := blk_frozen BK460.out 0; have hfz35_1 := blk_frozen BK460.out 1; have hfz35_2 := blk_frozen BK460.out 2; have hfz35_3 := blk_frozen BK460.out 3) | ((with_reducible refine gate_callee (f := 42) rfl ?_); refine goesL_ (some 15) rfl rfl Try.func42 (by kernel_rfl) rfl #[.int .i64 a0, .agg #[.int .i64 a1_0, .int .i64 a1_1, .int .i64 a1_2, .int .i64 a1_3], .slice none 0 0] rfl (by (try simp only [List.map_toArray, List.map_cons, List.map_nil]); first | done | rfl | (simp only [List.length_drop, List.length_take]; rfl)) ?_; (refine (spec_l04Code.calls k a0 a1_0 a1_1 a1_2 a1_3 _ _ ([] : List (S28)) t461 _ ?side1 ?side2 A3.out).mono ?_); (case side1 => exact Kd.C_nil _ _); (case side2 => exact Nat.le_refl _); rintro e w36 ⟨rfl, hb⟩; refine ⟨_, rfl, ?_⟩; replace BK460 := bb_ BK460 hb; replace HB := bt_ HB hb; (try clear hb); (try clear hb2); (try clear hk); (try clear hi)))
  go_ret2
  exact ⟨by first | rfl | (simp [errW_none, errW_some] <;> rfl) | (simp [*, errW_none, errW_some] <;> rfl), by repeat (first | (with_reducible first | exact HB.out | apply below_alloc | apply pw_below_drewN | apply below_drew1 | refine below_set ?_ GE460.out) | exact HB.out)⟩
/-! ### impl_joinLevel: function 107 -/
def impl_joinLevel.f (k : Nat) (a0 : Int) (a1_0 : Int) (a1_1 : Int) (a1_2 : Int) (a2_0 : Int) (a2_1 : Int) (a2_2 : Int) : Option (Int) := (impl_mark.f k a0 a1_0 a1_1 a1_2).bind fun t477 => ((impl_mark.f k a0 a2_0 a2_1 a2_2).bind fun t478 => ((impl_valuation.f k a0 (wrap64 (t477 - t478))).bind fun t479 => (some (mn (mn a1_0 a2_0) (wrap64 (t479 - 6))))))
def impl_joinLevel.T1 : Bool × List (List Nat × List Nat) := (true, [([], []), ([0], [0]), ([], []), ([2], [2]), ([], []), ([], []), ([], []), ([5, 6], [5, 6]), ([], []), ([], []), ([8, 9, 7], [8, 9]), ([7, 10], [7, 10]), ([4, 11, 10], [4, 11]), ([12], [12]), ([1, 3, 13], [1, 3, 13]), ([14, 12, 0, 1, 2, 3, 4, 5, 6, 7, 8, 9, 10, 11, 12, 13, 14], [14])])
def impl_joinLevel.B1 : List Nat := [0, 1, 0, 4, 0, 0, 0, 96, 0, 0, 992, 2016, 4080, 8176, 16383, 32767]
theorem impl_joinLevel.tab1 : rtab .any (opsOf Try.f107 1) = impl_joinLevel.T1 := by kernel_rfl
theorem impl_joinLevel.bits1 : waitsOk impl_joinLevel.T1.2 impl_joinLevel.B1 = true := by kernel_rfl
set_option maxHeartbeats 8000000 in
set_option maxRecDepth 100000 in
theorem impl_joinLevel.calls (k : Nat) (a0 : Int) (a1_0 : Int) (a1_1 : Int) (a1_2 : Int) (a2_0 : Int) (a2_1 : Int) (a2_2 : Int) (r : Int) (w : World) (h : impl_joinLevel.f k a0 a1_0 a1_1 a1_2 a2_0 a2_1 a2_2 = some r) :
  Calls Try.prog 107 #[.int .i64 a0, .agg #[.int .i64 a1_0, .int .i64 a1_1, .int .i64 a1_2], .agg #[.int .i64 a2_0, .int .i64 a2_1, .int .i64 a2_2]] w fun e w' => e = .returned (.int .i64 r) ∧ Below w.heap.size w w' := by
 have hu28 := Try.underlying28
 have HB := Aside0.mk (Below.refl w.heap.size w)
 have H : ((impl_mark.f k a0 a1_0 a1_1 a1_2).bind fun t477 => ((impl_mark.f k a0 a2_0 a2_1 a2_2).bind fun t478 => ((impl_valuation.f k a0 (wrap64 (t477 - t478))).bind fun t479 => (some (mn (mn a1_0 a2_0) (wrap64 (t479 - 6))))))) = some r := h
 clear h
 replace H := Option.bind_eq_some_iff.mp H
 obtain ⟨t477, A40, H⟩ := H
 have A4 := Aside0.mk A40
 clear A40
 replace H := Option.bind_eq_some_iff.mp H
 obtain ⟨t478, A50, H⟩ := H
 have A5 := Aside0.mk A50
 clear A50
 replace H := Option.bind_eq_some_iff.mp H
 obtain ⟨t479, A60, H⟩ := H
 have A6 := Aside0.mk A60
 clear A60
 obtain ⟨ji7, hji7⟩ : ∃ j_ : Int, (mn a1_0 a2_0) = j_ := ⟨_, rfl⟩
 replace H : (some (mn (ji7) (wrap64 (t479 - 6)))) = some r := by first | (rw [hji7] at H; exact H) | (simp only [hji7] at H ⊢; exact H)
 (try rw [hji7] at A4)
 (try rw [hji7] at A5)
 (try rw [hji7] at A6)
 have hji7_ : (if a2_0 < a1_0 then a2_0 else a1_0) = ji7 := hji7
 obtain ⟨ji8, hji8⟩ : ∃ j_ : Int, (mn (ji7) (wrap64 (t479 - 6))) = j_ := ⟨_, rfl⟩
 replace H : (some ji8) = some r := by first | (rw [hji8] at H; exact H) | (simp only [hji8] at H ⊢; exact H)
 (try rw [hji8] at A4)
 (try rw [hji8] at A5)
 (try rw [hji8] at A6)
 have hji8_ : (if (wrap64 (t479 - 6)) < (ji7) then (wrap64 (t479 - 6)) else (ji7)) = ji8 := hji8
 obtain rfl := Option.some.inj H
 go_enter Try.func107, Try.ntmps107
 try go_wp2_with (first | ((with_reducible refine gate_dst (N := 4) rfl ?_); refine bx_ 4 #[.int .i64 a1_0, .int .i64 a1_1, .int .i64 a1_2] 28 ?_; intro gb475 hg w9 hbox hb; have BK475 := Aside0.mk (hbox); have GW475 := bs_ HB hg; have GE475 := bs_ HB hg; replace HB := bt_ HB hb; clear hb hbox hg) | ((with_reducible refine gate_dst (N := 5) rfl ?_); refine bx_ 5 #[.int .i64 a2_0, .int .i64 a2_1, .int .i64 a2_2] 28 ?_; intro gb476 hg w10 hbox hb; have BK476 := Aside0.mk (hbox); have GW476 := bs_ HB hg; have GE476 := bs_ HB hg; have NB475_476 := bm_ BK475 hg; have NB476_475 := bn_ BK475 hg; replace BK475 := bb_ BK475 hb; replace HB := bt_ HB hb; clear hb hbox hg))
 replace BK475 := Aside0.mk (blk_drew BK475.out)
 replace BK476 := Aside0.mk (blk_drew BK476.out)
 replace HB := Aside0.mk (below_drew1 HB.out)
 refine start_ (n := 16) (S := fun w' => w'.cell? ⟨gb475, 0, none⟩ = some (.int .i64 a1_0) ∧ w'.cell? ⟨gb475, 1, none⟩ = some (.int .i64 a1_1) ∧ w'.cell? ⟨gb475, 2, none⟩ = some (.int .i64 a1_2) ∧ w'.cell? ⟨gb476, 0, none⟩ = some (.int .i64 a2_0) ∧ w'.cell? ⟨gb476, 1, none⟩ = some (.int .i64 a2_1) ∧ w'.cell? ⟨gb476, 2, none⟩ = some (.int .i64 a2_2)) (ds := []) #[false, false, false, false, false, false, false, false, false, false, false, false, false, false, false, false] (by kernel_rfl) rfl rfl ⟨(blk_cell BK475.out 0).trans rfl, (blk_cell BK475.out 1).trans rfl, (blk_cell BK475.out 2).trans rfl, (blk_cell BK476.out 0).trans rfl, (blk_cell BK476.out 1).trans rfl, (blk_cell BK476.out 2).trans rfl⟩ (fun hHeld => ?_); refine with_tabW impl_joinLevel.tab1 impl_joinLevel.bits1 (fun HT_ HW_ => ?_)
 generalize w10.drew = w11 at BK475 BK476 HB hHeld ⊢
 refine pu_ HT_ 0 (some 7) #[true, false, false, false, false, false, false, false, false, false, false, false, false, false, false, false] ?_
 refine pu_ HT_ 2 (some 9) #[true, false, true, false, false, false, false, false, false, false, false, false, false, false, false, false] ?_
 refine pu_ HT_ 4 (some 11) #[true, false, true, false, true, false, false, false, false, false, false, false, false, false, false, false] ?_
 refine pu_ HT_ 5 (some 12) #[true, false, true, false, true, true, false, false, false, false, false, false, false, false, false, false] ?_
 refine pu_ HT_ 8 (some 15) #[true, false, true, false, true, true, false, false, true, false, false, false, false, false, false, false] ?_
 refine ta_ HT_ HW_ 1 (some 8) #[true, true, true, false, true, true, false, false, true, false, false, false, false, false, false, false] hHeld ?_ (hy := by rintro w' ⟨s0, s1, s2, s3, s4, s5⟩; go_simp; with_reducible rfl)
 refine ta_ HT_ HW_ 3 (some 10) #[true, true, true, true, true, true, false, false, true, false, false, false, false, false, false, false] hHeld ?_ (hy := by rintro w' ⟨s0, s1, s2, s3, s4, s5⟩; go_simp; with_reducible rfl)
 refine ta_ HT_ HW_ 6 (some 13) #[true, true, true, true, true, true, true, false, true, false, false, false, false, false, false, false] hHeld ?_ (hy := by rintro w' ⟨s0, s1, s2, s3, s4, s5⟩; go_simp; with_reducible rfl)
 refine ta_ HT_ HW_ 9 (some 16) #[true, true, true, true, true, true, true, false, true, true, false, false, false, false, false, false] hHeld ?_ (hy := by rintro w' ⟨s0, s1, s2, s3, s4, s5⟩; go_simp; with_reducible rfl)
 refine one_ (i := 7) (N := some 14) #[true, true, true, true, true, true, true, true, true, true, false, false, false, false, false, false] rfl rfl (one_of HT_.out (by kernel_rfl)) (by decide) (fun K hK => ?_)
 refine goes_ Try.func79 (by kernel_rfl) rfl #[.int .i64 a0, .agg #[.int .i64 a1_0, .int .i64 a1_1, .int .i64 a1_2]] (by rfl) rfl rfl (by (try simp only [List.map_toArray, List.map_cons, List.map_nil]); first | done | rfl | (simp only [List.length_drop, List.length_take]; rfl)) ?_
 with_reducible refine (impl_mark.calls k a0 a1_0 a1_1 a1_2 t477 _ A4.out).mono ?_
 rintro e w12 ⟨rfl, hb⟩
 refine ⟨_, rfl, ?_⟩
 replace BK475 := bb_ BK475 hb
 replace BK476 := bb_ BK476 hb
 replace HB := bt_ HB hb
 (try clear hb)
 (try clear hb2)
 (try clear hk)
 (try clear hi)
 refine hK.out _ _ ⟨(blk_cell BK475.out 0).trans rfl, (blk_cell BK475.out 1).trans rfl, (blk_cell BK475.out 2).trans rfl, (blk_cell BK476.out 0).trans rfl, (blk_cell BK476.out 1).trans rfl, (blk_cell BK476.out 2).trans rfl⟩ (fun hHeld => ?_)
 clear hK K
 refine norm_ (a' := ?_) ?_ ?_
 rotate_left
 ·show Act.put _ (some 14) _ = _
  simp only [Act.put, lstS, lstZ, lstC, i64_w, i32_w]
  rfl
 refine one_ (i := 10) (N := some 17) #[true, true, true, true, true, true, true, true, true, true, true, false, false, false, false, false] rfl rfl (one_of HT_.out (by kernel_rfl)) (by decide) (fun K hK => ?_)
 refine goes_ Try.func79 (by kernel_rfl) rfl #[.int .i64 a0, .agg #[.int .i64 a2_0, .int .i64 a2_1, .int .i64 a2_2]] (by rfl) rfl rfl (by (try simp only [List.map_toArray, List.map_cons, List.map_nil]); first | done | rfl | (simp only [List.length_drop, List.length_take]; rfl)) ?_
 with_reducible refine (impl_mark.calls k a0 a2_0 a2_1 a2_2 t478 _ A5.out).mono ?_
 rintro e w13 ⟨rfl, hb⟩
 refine ⟨_, rfl, ?_⟩
 replace BK475 := bb_ BK475 hb
 replace BK476 := bb_ BK476 hb
 replace HB := bt_ HB hb
 (try clear hb)
 (try clear hb2)
 (try clear hk)
 (try clear hi)
 refine hK.out _ _ ⟨(blk_cell BK475.out 0).trans rfl, (blk_cell BK475.out 1).trans rfl, (blk_cell BK475.out 2).trans rfl, (blk_cell BK476.out 0).trans rfl, (blk_cell BK476.out 1).trans rfl, (blk_cell BK476.out 2).trans rfl⟩ (fun hHeld => ?_)
 clear hK K
 refine norm_ (a' := ?_) ?_ ?_
 rotate_left
 ·show Act.put _ (some 17) _ = _
  simp only [Act.put, lstS, lstZ, lstC, i64_w, i32_w]
  rfl
 refine pu_ HT_ 11 (some 18) #[true, true, true, true, true, true, true, true, true, true, true, true, false, false, false, false] ?_
 refine one_ (i := 12) (N := some 19) #[true, true, true, true, true, true, true, true, true, true, true, true, true, false, false, false] rfl rfl (one_of HT_.out (by kernel_rfl)) (by decide) (fun K hK => ?_)
 refine goes_ Try.func81 (by kernel_rfl) rfl #[.int .i64 a0, .int .i64 (wrap64 (t477 - t478))] (by rfl) rfl rfl (by (try simp only [List.map_toArray, List.map_cons, List.map_nil]); first | done | rfl | (simp only [List.length_drop, List.length_take]; rfl)) ?_
 with_reducible refine (impl_valuation.calls k a0 (wrap64 (t477 - t478)) t479 _ A6.out).mono ?_
 rintro e w' ⟨rfl, ⟨nd, rfl⟩⟩
 refine ⟨_, rfl, ?_⟩
 refine hK.out _ _ ⟨(blk_cell BK475.out 0).trans rfl, (blk_cell BK475.out 1).trans rfl, (blk_cell BK475.out 2).trans rfl, (blk_cell BK476.out 0).trans rfl, (blk_cell BK476.out 1).trans rfl, (blk_cell BK476.out 2).trans rfl⟩ (fun hHeld => ?_)
 clear hK K
 refine norm_ (a' := ?_) ?_ ?_
 rotate_left
 ·show Act.put _ (some 19) _ = _
  simp only [Act.put, lstS, lstZ, lstC, i64_w, i32_w]
  rfl
 refine pu_ HT_ 13 (some 20) #[true, true, true, true, true, true, true, true, true, true, true, true, true, true, false, false] ?_
 refine pu_ HT_ 14 (some 21) #[true, true, true, true, true, true, true, true, true, true, true, true, true, true, true, false] ?_
 refine pu_ HT_ 15 (some 6) #[true, true, true, true, true, true, true, true, true, true, true, true, true, true, true, true] ?_
 refine done_ (done_of HT_.out (by kernel_rfl)) ?_
 try go_wp2
 go_ret
 exact ⟨by first | rfl | (simp [errW_none, errW_some] <;> rfl) | (simp only [← hji7, ← hji8]; first | rfl | (simp [errW_none, errW_some] <;> rfl)) | (simp [*, errW_none, errW_some] <;> rfl), by repeat (first | (with_reducible first | exact HB.out | apply below_alloc | apply pw_below_drewN | apply below_drew1 | refine below_set ?_ GE475.out | refine below_set ?_ GE476.out) | exact HB.out)⟩
/-! ### impl_above: function 108 -/
def impl_above.f (k : Nat) (a0 : Int) (a1_0 : Int) (a1_1 : Int) (a1_2 : Int) (a2 : Int) : Option (Int × Int × Int) := (impl_mark.f k a0 a1_0 a1_1 a1_2).bind fun t482 => ((impl_ofMark.f k a0 a2 t482).bind fun bt483 => (some (bt483.1, bt483.2.1, bt483.2.2.1)))
set_option maxHeartbeats 8000000 in
set_option maxRecDepth 100000 in
theorem impl_above.calls (k : Nat) (a0 : Int) (a1_0 : Int) (a1_1 : Int) (a1_2 : Int) (a2 : Int) (r1 : Int) (r2 : Int) (r3 : Int) (w : World) (h : impl_above.f k a0 a1_0 a1_1 a1_2 a2 = some (r1, r2, r3)) :
  Calls Try.prog 108 #[.int .i64 a0, .agg #[.int .i64 a1_0, .int .i64 a1_1, .int .i64 a1_2], .int .i64 a2] w fun e w' => e = .returned (.agg #[.int .i64 r1, .int .i64 r2, .int .i64 r3]) ∧ Below w.heap.size w w' := by
 have hu28 := Try.underlying28
 have HB := Aside0.mk (Below.refl w.heap.size w)
 have H : ((impl_mark.f k a0 a1_0 a1_1 a1_2).bind fun t482 => ((impl_ofMark.f k a0 a2 t482).bind fun bt483 => (some (bt483.1, bt483.2.1, bt483.2.2.1)))) = some (r1, r2, r3) := h
 clear h
 replace H := Option.bind_eq_some_iff.mp H
 obtain ⟨t482, A40, H⟩ := H
 have A4 := Aside0.mk A40
 clear A40
 replace H := Option.bind_eq_some_iff.mp H
 obtain ⟨⟨t483, t484, t485, t486⟩, A50, H⟩ := H
 have A5 := Aside0.mk A50
 clear A50
 simp only [Option.some.injEq, Prod.mk.injEq] at H
 obtain ⟨rfl, rfl, rfl⟩ := H
 go_enter Try.func108, Try.ntmps108
 go_wp2_with (first | ((with_reducible refine gate_dst (N := 4) rfl ?_); refine bx_ 4 #[.int .i64 a1_0, .int .i64 a1_1, .int .i64 a1_2] 28 ?_; intro gb480 hg w6 hbox hb; have BK480 := Aside0.mk (hbox); have GW480 := bs_ HB hg; have GE480 := bs_ HB hg; replace HB := bt_ HB hb; clear hb hbox hg) | ((with_reducible refine gate_dst (N := 6) rfl ?_); refine bx_ 6 #[.int .i64 0, .int .i64 0, .int .i64 0] 28 ?_; intro gb481 hg w7 hbox hb; have BK481 := Aside0.mk (hbox); have GW481 := bs_ HB hg; have GE481 := bs_ HB hg; have NB480_481 := bm_ BK480 hg; have NB481_480 := bn_ BK480 hg; replace BK480 := bb_ BK480 hb; replace HB := bt_ HB hb; clear hb hbox hg; have hnb8 := NB480_481.out; have hnc8 := NB481_480.out; have hcz9_0 : w7.cell? ⟨gb480, 0, none⟩ = some (.int .i64 a1_0) := (blk_cell BK480.out 0).trans rfl; have hcz9_1 : w7.cell? ⟨gb480, 1, none⟩ = some (.int .i64 a1_1) := (blk_cell BK480.out 1).trans rfl; have hcz9_2 : w7.cell? ⟨gb480, 2, none⟩ = some (.int .i64 a1_2) := (blk_cell BK480.out 2).trans rfl; have hfz9_0 := blk_frozen BK480.out 0; have hfz9_1 := blk_frozen BK480.out 1; have hfz9_2 := blk_frozen BK480.out 2) | ((with_reducible refine gate_callee (f := 79) rfl ?_); refine goesL_ (some 14) rfl rfl Try.func79 (by kernel_rfl) rfl #[.int .i64 a0, .agg #[.int .i64 a1_0, .int .i64 a1_1, .int .i64 a1_2]] rfl (by (try simp only [List.map_toArray, List.map_cons, List.map_nil]); first | done | rfl | (simp only [List.length_drop, List.length_take]; rfl)) ?_; (with_reducible refine (impl_mark.calls k a0 a1_0 a1_1 a1_2 t482 _ A4.out).mono ?_); rintro e w10 ⟨rfl, hb⟩; refine ⟨_, rfl, ?_⟩; replace BK480 := bb_ BK480 hb; replace BK481 := bb_ BK481 hb; replace HB := bt_ HB hb; (try clear hb); (try clear hb2); (try clear hk); (try clear hi)) | ((with_reducible refine gate_callee (f := 101) rfl ?_); refine goesL_ (some 15) rfl rfl Try.func101 (by kernel_rfl) rfl #[.int .i64 a0, .int .i64 a2, .int .i64 t482] rfl (by (try simp only [List.map_toArray, List.map_cons, List.map_nil]); first | done | rfl | (simp only [List.length_drop, List.length_take]; rfl)) ?_; (with_reducible refine (impl_ofMark.calls k a0 a2 t482 t483 t484 t485 t486 _ A5.out).mono ?_); rintro e w11 ⟨rfl, hb⟩; refine ⟨_, rfl, ?_⟩; replace BK480 := bb_ BK480 hb; replace BK481 := bb_ BK481 hb; replace HB := bt_ HB hb; (try clear hb); (try clear hb2); (try clear hk); (try clear hi)) | ((with_reducible refine gate_dst (N := 7) rfl ?_); refine bx_ 7 #[.int .i64 0, .int .i64 0, .int .i64 0] 28 ?_; intro gb487 hg w12 hbox hb; have BK487 := Aside0.mk (hbox); have GW487 := bs_ HB hg; have GE487 := bs_ HB hg; have NB480_487 := bm_ BK480 hg; have NB487_480 := bn_ BK480 hg; have NB481_487 := bm_ BK481 hg; have NB487_481 := bn_ BK481 hg; replace BK480 := bb_ BK480 hb; replace BK481 := bb_ BK481 hb; replace HB := bt_ HB hb; clear hb hbox hg; have hnb13 := NB487_480.out; have hnc13 := NB480_487.out; have hnb14 := NB487_481.out; have hnc14 := NB481_487.out; have hcz15_0 : w12.cell? ⟨gb487, 0, none⟩ = some (.int .i64 0) := (blk_cell BK487.out 0).trans rfl; have hcz15_1 : w12.cell? ⟨gb487, 1, none⟩ = some (.int .i64 0) := (blk_cell BK487.out 1).trans rfl; have hcz15_2 : w12.cell? ⟨gb487, 2, none⟩ = some (.int .i64 0) := (blk_cell BK487.out 2).trans rfl; have hfz15_0 := blk_frozen BK487.out 0; have hfz15_1 := blk_frozen BK487.out 1; have hfz15_2 := blk_frozen BK487.out 2; have hcz16_0 : w12.cell? ⟨gb481, 0, none⟩ = some (.int .i64 0) := (blk_cell BK481.out 0).trans rfl; have hcz16_1 : w12.cell? ⟨gb481, 1, none⟩ = some (.int .i64 0) := (blk_cell BK481.out 1).trans rfl; have hcz16_2 : w12.cell? ⟨gb481, 2, none⟩ = some (.int .i64 0) := (blk_cell BK481.out 2).trans rfl; have hfz16_0 := blk_frozen BK481.out 0; have hfz16_1 := blk_frozen BK481.out 1; have hfz16_2 := blk_frozen BK481.out 2))
 refine bodyPost_ret (results_cell_row rfl _ _ gb481 28 #[.int .i64 t483, .int .i64 t484, .int .i64 t485] (0, 0) _ rfl (by (with_reducible repeat first | apply blk_drewN | apply blk_drew | apply blk_alloc); refine blk_put (cs := #[.int .i64 t483, .int .i64 t484, .int .i64 0]) ?_ 2 _ rfl; (with_reducible repeat first | apply blk_drewN | apply blk_drew | apply blk_alloc); refine blk_put (cs := #[.int .i64 t483, .int .i64 0, .int .i64 0]) ?_ 1 _ rfl; (with_reducible repeat first | apply blk_drewN | apply blk_drew | apply blk_alloc); refine blk_put (cs := #[.int .i64 0, .int .i64 0, .int .i64 0]) ?_ 0 _ rfl; (with_reducible repeat first | apply blk_drewN | apply blk_drew | apply blk_alloc); refine blk_far ?_ NB481_487.out _; (with_reducible repeat first | apply blk_drewN | apply blk_drew | apply blk_alloc); refine blk_far ?_ NB481_487.out _; (with_reducible repeat first | apply blk_drewN | apply blk_drew | apply blk_alloc); refine blk_far ?_ NB481_487.out _; (with_reducible repeat first | apply blk_drewN | apply blk_drew | apply blk_alloc); exact BK481.out) Try.underlying28 rfl (by kernel_rfl)) rfl ?_
 exact ⟨by first | rfl | (simp [errW_none, errW_some] <;> rfl) | (simp [*, errW_none, errW_some] <;> rfl), by repeat (first | (with_reducible first | exact HB.out | apply below_alloc | apply pw_below_drewN | apply below_drew1 | refine below_set ?_ GE480.out | refine below_set ?_ GE481.out | refine below_set ?_ GE487.out) | exact HB.out)⟩
end Go.Proofs.Ytojpcbbmbnmchaa.QC
