-- Written by a program of this session out of Lean's own print of the loaded program; Lean checks it.
import Derived.Test.YtojpcbbmbnmchaaQCx4
import Derived.Test.YtojpcbbmbnmchaaQCx58
import Derived.Test.YtojpcbbmbnmchaaQCx61
namespace Go.Proofs.Ytojpcbbmbnmchaa.QC
open Go.RowKit Go.Proofs.YtojpcbbmbnmchaaW.PrintWords Go.Proofs.YtojpcbbmbnmchaaW.PrintLast Go.Proofs.YtojpcbbmbnmchaaW.PrintMore
attribute [local go_sem] isSome_setCell max2_int min2_int max_two min_two max_three min_three max_four min_four   -- for this text's walks alone
set_option linter.unusedVariables false
set_option linter.unusedSimpArgs false

/-! ### spec_l10Way: function 53 -/
mutual
def spec_l10Way.l0 : Nat → Int → Int → List Int → Int → Int → Int → Int → Option (ByteArray × Bool)
 | 0, _, _, _, _, _, _, _ => none
 | k + 1, x0, x8, x9, x10, x444000, x444001, x444002 => if x10 > x8 then (if x9.length < 140737488355328 then (spec_l10Way.l0 k x0 x8 (x9 ++ [117]) (wrap64 (x10 - 1)) x444000 x444001 x444002) else (none)) else (spec_l10Way.l1 k x0 x9 (wrap64 (x8 + 1)) x444000 x444001 x444002)
def spec_l10Way.l1 : Nat → Int → List Int → Int → Int → Int → Int → Option (ByteArray × Bool)
 | 0, _, _, _, _, _, _ => none
 | k + 1, x0, x9, x11, x444000, x444001, x444002 => if x11 ≤ x444000 then ((spec_l02Up.f k x0 x444000 x444001 x444002 x11).bind fun bt451 => (if bt451.2.2.2 = true then ((spec_l10Digit.f k x0 bt451.1 bt451.2.1 bt451.2.2.1).bind fun t456 => (if x9.length < 140737488355328 then (spec_l10Way.l1 k x0 (x9 ++ [(wrap64 (48 + t456)) % 256]) (wrap64 (x11 + 1)) x444000 x444001 x444002) else (none))) else (some ((⟨#[]⟩ : ByteArray), false)))) else (some (strOfNums x9, true))
end
def spec_l10Way.f (k : Nat) (a0 : Int) (a1_0 : Int) (a1_1 : Int) (a1_2 : Int) (a2_0 : Int) (a2_1 : Int) (a2_2 : Int) : Option (ByteArray × Bool) := (spec_l02Join.f k a0 a1_0 a1_1 a1_2 a2_0 a2_1 a2_2).bind fun t444 => (spec_l10Way.l0 k a0 t444 (([] : List Int)) a1_0 a2_0 a2_1 a2_2)
set_option maxHeartbeats 8000000 in
set_option maxRecDepth 100000 in
theorem spec_l10Way.calls (k : Nat) (a0 : Int) (a1_0 : Int) (a1_1 : Int) (a1_2 : Int) (a2_0 : Int) (a2_1 : Int) (a2_2 : Int) (r1 : ByteArray) (r2 : Bool) (w : World) (h : spec_l10Way.f k a0 a1_0 a1_1 a1_2 a2_0 a2_1 a2_2 = some (r1, r2)) :
  Calls Try.prog 53 #[.int .i64 a0, .agg #[.int .i64 a1_0, .int .i64 a1_1, .int .i64 a1_2], .agg #[.int .i64 a2_0, .int .i64 a2_1, .int .i64 a2_2]] w fun e w' => e = .returned (.tuple #[.string r1, .bool r2]) ∧ Below w.heap.size w w' := by
 have hu28 := Try.underlying28
 have HB := Aside0.mk (Below.refl w.heap.size w)
 have H : ((spec_l02Join.f k a0 a1_0 a1_1 a1_2 a2_0 a2_1 a2_2).bind fun t444 => (spec_l10Way.l0 k a0 t444 (([] : List Int)) a1_0 a2_0 a2_1 a2_2)) = some (r1, r2) := h
 clear h
 replace H := Option.bind_eq_some_iff.mp H
 obtain ⟨t444, A40, H⟩ := H
 have A4 := Aside0.mk A40
 clear A40
 obtain ⟨y445, hy445⟩ : ∃ y_ : List Int, y_ = (([] : List Int)) := ⟨_, rfl⟩
 replace H : (spec_l10Way.l0 k a0 t444 y445 a1_0 a2_0 a2_1 a2_2) = some (r1, r2) := by first | (rw [hy445]; with_reducible exact H) | (have H2_ := (Option.bind_some _ _).symm.trans H; rw [hy445]; with_reducible exact H2_) | (have H2_ := (Option.bind_some _ _).symm.trans H; with_reducible exact H2_) | with_reducible exact H | (rw [hy445]; exact H) | exact H
 have Ny445 := Aside0.mk hy445
 clear hy445
 have H' := Aside0.mk H
 clear H
 go_enter Try.func53, Try.ntmps53
 go_wp2_with (first | ((with_reducible refine gate_dst (N := 4) rfl ?_); refine bx_ 4 #[.int .i64 a1_0, .int .i64 a1_1, .int .i64 a1_2] 28 ?_; intro gb442 hg w5 hbox hb; have BK442 := Aside0.mk (hbox); have GW442 := bs_ HB hg; have GE442 := bs_ HB hg; replace HB := bt_ HB hb; clear hb hbox hg) | ((with_reducible refine gate_dst (N := 5) rfl ?_); refine bx_ 5 #[.int .i64 a2_0, .int .i64 a2_1, .int .i64 a2_2] 28 ?_; intro gb443 hg w6 hbox hb; have BK443 := Aside0.mk (hbox); have GW443 := bs_ HB hg; have GE443 := bs_ HB hg; have NB442_443 := bm_ BK442 hg; have NB443_442 := bn_ BK442 hg; replace BK442 := bb_ BK442 hb; replace HB := bt_ HB hb; clear hb hbox hg; have hnb7 := NB442_443.out; have hnc7 := NB443_442.out; have hcz8_0 : w6.cell? ⟨gb442, 0, none⟩ = some (.int .i64 a1_0) := (blk_cell BK442.out 0).trans rfl; have hcz8_1 : w6.cell? ⟨gb442, 1, none⟩ = some (.int .i64 a1_1) := (blk_cell BK442.out 1).trans rfl; have hcz8_2 : w6.cell? ⟨gb442, 2, none⟩ = some (.int .i64 a1_2) := (blk_cell BK442.out 2).trans rfl; have hfz8_0 := blk_frozen BK442.out 0; have hfz8_1 := blk_frozen BK442.out 1; have hfz8_2 := blk_frozen BK442.out 2; have hcz9_0 : w6.cell? ⟨gb443, 0, none⟩ = some (.int .i64 a2_0) := (blk_cell BK443.out 0).trans rfl; have hcz9_1 : w6.cell? ⟨gb443, 1, none⟩ = some (.int .i64 a2_1) := (blk_cell BK443.out 1).trans rfl; have hcz9_2 : w6.cell? ⟨gb443, 2, none⟩ = some (.int .i64 a2_2) := (blk_cell BK443.out 2).trans rfl; have hfz9_0 := blk_frozen BK443.out 0; have hfz9_1 := blk_frozen BK443.out 1; have hfz9_2 := blk_frozen BK443.out 2) | ((with_reducible refine gate_callee (f := 87) rfl ?_); refine goesL_ (some 17) rfl rfl Try.func87 (by kernel_rfl) rfl #[.int .i64 a0, .agg #[.int .i64 a1_0, .int .i64 a1_1, .int .i64 a1_2], .agg #[.int .i64 a2_0, .int .i64 a2_1, .int .i64 a2_2]] rfl (by (try simp only [List.map_toArray, List.map_cons, List.map_nil]); first | done | rfl | (simp only [List.length_drop, List.length_take]; rfl)) ?_; (with_reducible refine (spec_l02Join.calls k a0 a1_0 a1_1 a1_2 a2_0 a2_1 a2_2 t444 _ A4.out).mono ?_); rintro e w10 ⟨rfl, hb⟩; refine ⟨_, rfl, ?_⟩; replace BK442 := bb_ BK442 hb; replace BK443 := bb_ BK443 hb; replace HB := bt_ HB hb; (try clear hb); (try clear hb2); (try clear hk); (try clear hi)) | ((with_reducible refine gate_dst (N := 18) rfl ?_); refine Kd.R_lit (Kd.int .u8) _ 5 ?hg (N := 18) ?hd (xs := ([] : List Int)) (inner := []) (ok := fun _ => True) (okp := fun _ => True) ?hr ?hp (fun _ hk => hk) trivial (Below.refl _ _) (Nat.le_refl _) (by simp) ?_; (case hd => rfl); (case hg => rfl); (case hr => first | (go_simp; done) | (go_simp; rfl)); (case hp => exact (Reps.none _ _)); intro v446 w11 ho12 hb hg_ hnew_; clear hg_ hnew_; (first | rw [← Ny445.out] at ho12 | (simp only [Int.reduceToNat] at ho12; rw [← Ny445.out] at ho12)); have HO447 := Aside0.mk (Kd.R_lower ho12 (below_size (bw_ HB).out)); replace BK442 := bb_ BK442 hb; replace BK443 := bb_ BK443 hb; replace HB := bt_ HB hb; clear hb ho12; have hcz13_0 : w11.cell? ⟨gb442, 0, none⟩ = some (.int .i64 a1_0) := (blk_cell BK442.out 0).trans rfl; have hcz13_1 : w11.cell? ⟨gb442, 1, none⟩ = some (.int .i64 a1_1) := (blk_cell BK442.out 1).trans rfl; have hcz13_2 : w11.cell? ⟨gb442, 2, none⟩ = some (.int .i64 a1_2) := (blk_cell BK442.out 2).trans rfl; have hfz13_0 := blk_frozen BK442.out 0; have hfz13_1 := blk_frozen BK442.out 1; have hfz13_2 := blk_frozen BK442.out 2))
 go_loopg [9, 10] k (fun kq v9 v10 w' => ∃ (x9_1 : List Int) (x10_1 : Int), v10 = .int .i64 x10_1 ∧ Aside0 (spec_l10Way.l0 kq a0 t444 x9_1 x10_1 a2_0 a2_1 a2_2 = some (r1, r2)) ∧ Aside0 (kq ≤ k) ∧ Aside0 (Kd.R (Kd.int .u8) 5 w' w.heap.size (fun _ => True) v9 x9_1) ∧ Aside0 (w'.heap[gb442]? = some (.cells #[.int .i64 a1_0, .int .i64 a1_1, .int .i64 a1_2] 28 (0, 0))) ∧ Aside0 (w'.heap[gb443]? = some (.cells #[.int .i64 a2_0, .int .i64 a2_1, .int .i64 a2_2] 28 (0, 0))) ∧ Aside0 (Below w.heap.size w w'))
 case atStart => exact ⟨(y445), (a1_0), (by first | rfl | (simp; done) | (simp [*]; done) | (simp [wrap64]; done)), H', ⟨Nat.le_refl _⟩, ⟨by (with_reducible repeat (first | apply Kd.R_alloc | apply Kd.R_drewN | apply Kd.R_drew)); exact HO447.out⟩, bl_ BK442, bl_ BK443, bw_ HB⟩
 case round =>
  clear H'
  try clear p2
  try clear c5
  try clear c7
  try clear c8
  try clear hcz13_0
  try clear hcz13_1
  try clear hcz13_2
  try clear hcz8_0
  try clear hcz8_1
  try clear hcz8_2
  try clear hcz9_0
  try clear hcz9_1
  try clear hcz9_2
  try clear hfz13_0
  try clear hfz13_1
  try clear hfz13_2
  try clear hfz8_0
  try clear hfz8_1
  try clear hfz8_2
  try clear hfz9_0
  try clear hfz9_1
  try clear hfz9_2
  obtain ⟨x9_1, x10_1, rfl, HA, HK1, HO_9, BK442, BK443, HB⟩ := hrel
  cases gk with
  | zero => exact absurd HA.out (by simp [spec_l10Way.l0])
  | succ k1 =>
   have H := HA.out
   clear HA
   simp only [spec_l10Way.l0] at H
   by_cases c14 : x10_1 > t444
   ·rw [if_pos c14] at H
    have c14b0 : decide (t444 < x10_1) = true := decide_eq_true c14
    clear c14
    by_cases c15 : x9_1.length < 140737488355328
    ·rw [if_pos c15] at H
     have LMc15 := Aside0.mk c15
     clear c15
     obtain ⟨y448, hy448⟩ : ∃ y_ : List Int, y_ = (x9_1 ++ [117]) := ⟨_, rfl⟩
     replace H : (spec_l10Way.l0 k1 a0 t444 y448 (wrap64 (x10_1 - 1)) a2_0 a2_1 a2_2) = some (r1, r2) := by first | (rw [hy448]; with_reducible exact H) | (have H2_ := (Option.bind_some _ _).symm.trans H; rw [hy448]; with_reducible exact H2_) | (have H2_ := (Option.bind_some _ _).symm.trans H; with_reducible exact H2_) | with_reducible exact H | (rw [hy448]; exact H) | exact H
     have Ny448 := Aside0.mk hy448
     clear hy448
     have H' := Aside0.mk H
     clear H
     go_wp2_with (first | ((with_reducible refine gate_builtin (b := .append) (xs := #[.tmp 26, .tmp 27]) rfl ?_); at_builtin; refine Kd.R_append (Kd.int .u8) (w0 := w) w.heap.size rfl (.tmp 26) (.tmp 27) 100 5 (.int .u8 0) 1 rfl Try.underlying100 info5 rfl (by decide) (by omega) u9 x9_1 117 [.int .u8 117] (fun _ => True) (fun _ => False) rfl rfl ?aP (fun _ hk => hk.elim) ?aF ?aO ?aB ?aS ?aL ?_; (case aP => exact rfl); (case aB => exact (bw_ HB).out); (case aF => exact (fun _ _ => trivial)); (case aO => exact (by (with_reducible repeat (first | apply Kd.R_alloc | apply Kd.R_drewN | apply Kd.R_drew)); exact HO_9.out)); (case aS => exact (below_size (bw_ HB).out)); (case aL => have := LMc15.out; omega); intro v449 w16 ho hb hg hat; rw [← Ny448.out] at ho; have n0_ := Aside0.mk (blk_grown (g := gb442) (o := .cells #[.int .i64 a1_0, .int .i64 a1_1, .int .i64 a1_2] 28 (0, 0)) (bl_ BK442).out hg (Kd.R_ne HO_9.out BK442.out (by decide))); have n1_ := Aside0.mk (blk_grown (g := gb443) (o := .cells #[.int .i64 a2_0, .int .i64 a2_1, .int .i64 a2_2] 28 (0, 0)) (bl_ BK443).out hg (Kd.R_ne HO_9.out BK443.out (by decide))); have n2_ := Aside0.mk (hb); have n3_ := Aside0.mk (ho); clear BK442; clear BK443; clear HB; clear HO_9; have BK442 := n0_; have BK443 := n1_; have HB := n2_; have HO450 := n3_; clear n0_ n1_ n2_ n3_; clear ho hb hg hat))
     go_roundg k1
     case measure => have := HK1.out; omega
     case rel => exact ⟨(y448), (wrap64 (x10_1 - 1)), (by first | rfl | (simp; done) | (simp [*]; done) | (simp [wrap64]; done)), H', ⟨by have := HK1.out; omega⟩, ⟨by (with_reducible repeat (first | apply Kd.R_alloc | apply Kd.R_drewN | apply Kd.R_drew)); exact HO450.out⟩, bl_ BK442, bl_ BK443, bw_ HB⟩
    ·rw [if_neg c15] at H
     exact absurd H (by simp)
   ·rw [if_neg c14] at H
    have c14b0 : decide (t444 < x10_1) = false := decide_eq_false c14
    clear c14
    have H' := Aside0.mk H
    clear H
    go_wp2
    go_loopg [9, 11] k1 (fun kq v9 v11 w' => ∃ (x9_2 : List Int) (x11_2 : Int), v11 = .int .i64 x11_2 ∧ Aside0 (spec_l10Way.l1 kq a0 x9_2 x11_2 a2_0 a2_1 a2_2 = some (r1, r2)) ∧ Aside0 (kq ≤ k1) ∧ Aside0 (Kd.R (Kd.int .u8) 5 w' w.heap.size (fun _ => True) v9 x9_2) ∧ Aside0 (w'.heap[gb442]? = some (.cells #[.int .i64 a1_0, .int .i64 a1_1, .int .i64 a1_2] 28 (0, 0))) ∧ Aside0 (w'.heap[gb443]? = some (.cells #[.int .i64 a2_0, .int .i64 a2_1, .int .i64 a2_2] 28 (0, 0))) ∧ Aside0 (Below w.heap.size w w'))
    case atStart => exact ⟨(x9_1), (wrap64 (t444 + 1)), (by first | rfl | (simp; done) | (simp [*]; done) | (simp [wrap64]; done)), H', ⟨Nat.le_refl _⟩, ⟨by (with_reducible repeat (first | apply Kd.R_alloc | apply Kd.R_drewN | apply Kd.R_drew)); exact HO_9.out⟩, bl_ BK442, bl_ BK443, bw_ HB⟩
    case round =>
     clear H'
     try clear c1
     try clear p2
     try clear c5
     try clear p6
     try clear c7
     try clear c8
     try clear c14
     try clear c14b0
     try clear c15
     try clear hcz13_0
     try clear hcz13_1
     try clear hcz13_2
     try clear hcz8_0
     try clear hcz8_1
     try clear hcz8_2
     try clear hcz9_0
     try clear hcz9_1
     try clear hcz9_2
     try clear hfz13_0
     try clear hfz13_1
     try clear hfz13_2
     try clear hfz8_0
     try clear hfz8_1
     try clear hfz8_2
     try clear hfz9_0
     try clear hfz9_1
     try clear hfz9_2
     try clear p2
     obtain ⟨x9_2, x11_2, rfl, HA, HK2, HO_9, BK442, BK443, HB⟩ := hrel
     cases gk with
     | zero => exact absurd HA.out (by simp [spec_l10Way.l1])
     | succ k2 =>
      have H := HA.out
      clear HA
      simp only [spec_l10Way.l1] at H
      by_cases c17 : x11_2 ≤ a2_0
      ·rw [if_pos c17] at H
       have c17b0 : decide (x11_2 ≤ a2_0) = true := decide_eq_true c17
       clear c17
       replace H := Option.bind_eq_some_iff.mp H
       obtain ⟨⟨t451, t452, t453, t454⟩, A180, H⟩ := H
       have A18 := Aside0.mk A180
       clear A180
       by_cases c19 : t454 = true
       ·subst c19
        have H1 : ((spec_l10Digit.f k2 a0 t451 t452 t453).bind fun t456 => (if x9_2.length < 140737488355328 then (spec_l10Way.l1 k2 a0 (x9_2 ++ [(wrap64 (48 + t456)) % 256]) (wrap64 (x11_2 + 1)) a2_0 a2_1 a2_2) else (none))) = some (r1, r2) := by rw [if_pos rfl] at H; exact H
        clear H
        have H := H1
        clear H1
        replace H := Option.bind_eq_some_iff.mp H
        obtain ⟨t456, A200, H⟩ := H
        have A20 := Aside0.mk A200
        clear A200
        by_cases c21 : x9_2.length < 140737488355328
        ·rw [if_pos c21] at H
         have LMc21 := Aside0.mk c21
         clear c21
         obtain ⟨y457, hy457⟩ : ∃ y_ : List Int, y_ = (x9_2 ++ [(wrap64 (48 + t456)) % 256]) := ⟨_, rfl⟩
         replace H : (spec_l10Way.l1 k2 a0 y457 (wrap64 (x11_2 + 1)) a2_0 a2_1 a2_2) = some (r1, r2) := by first | (rw [hy457]; with_reducible exact H) | (have H2_ := (Option.bind_some _ _).symm.trans H; rw [hy457]; with_reducible exact H2_) | (have H2_ := (Option.bind_some _ _).symm.trans H; with_reducible exact H2_) | with_reducible exact H | (rw [hy457]; exact H) | exact H
         have Ny457 := Aside0.mk hy457
         clear hy457
         have H' := Aside0.mk H
         clear H
         have hnb22 := NB443_442.out
         have hnc22 := NB442_443.out
         have hcz23_0 : wr.cell? ⟨gb443, 0, none⟩ = some (.int .i64 a2_0) := (blk_cell BK443.out 0).trans rfl
         have hcz23_1 : wr.cell? ⟨gb443, 1, none⟩ = some (.int .i64 a2_1) := (blk_cell BK443.out 1).trans rfl
         have hcz23_2 : wr.cell? ⟨gb443, 2, none⟩ = some (.int .i64 a2_2) := (blk_cell BK443.out 2).trans rfl
         have hfz23_0 := blk_frozen BK443.out 0
         have hfz23_1 := blk_frozen BK443.out 1
         have hfz23_2 := blk_frozen BK443.out 2
         go_wp2_with (first | ((with_reducible refine gate_callee (f := 88) rfl ?_); refine goesL_ (some 41) rfl rfl Try.func88 (by kernel_rfl) rfl #[.int .i64 a0, .agg #[.int .i64 a2_0, .int .i64 a2_1, .int .i64 a2_2], .int .i64 x11_2] rfl (by (try simp only [List.map_toArray, List.map_cons, List.map_nil]); first | done | rfl | (simp only [List.length_drop, List.length_take]; rfl)) ?_; (with_reducible refine (spec_l02Up.calls k2 a0 a2_0 a2_1 a2_2 x11_2 t451 t452 t453 true _ A18.out).mono ?_); rintro e w24 ⟨rfl, hb⟩; refine ⟨_, rfl, ?_⟩; replace HO_9 := Aside0.mk (Kd.R_below (by (with_reducible repeat (first | apply Kd.R_alloc | apply Kd.R_drewN | apply Kd.R_drew)); exact HO_9.out) hb); replace BK442 := bb_ BK442 hb; replace BK443 := bb_ BK443 hb; replace HB := bt_ HB hb; (try clear hb); (try clear hb2); (try clear hk); (try clear hi)) | ((with_reducible refine gate_dst (N := 12) rfl ?_); refine bx_ 12 #[.int .i64 0, .int .i64 0, .int .i64 0] 28 ?_; intro gb455 hg w25 hbox hb; have BK455 := Aside0.mk (hbox); have GW455 := bs_ HB hg; have GE455 := bs_ HB hg; have NB442_455 := bm_ BK442 hg; have NB455_442 := bn_ BK442 hg; have NB443_455 := bm_ BK443 hg; have NB455_443 := bn_ BK443 hg; replace HO_9 := Aside0.mk (Kd.R_below (by (with_reducible repeat (first | apply Kd.R_alloc | apply Kd.R_drewN | apply Kd.R_drew)); exact HO_9.out) hb); replace BK442 := bb_ BK442 hb; replace BK443 := bb_ BK443 hb; replace HB := bt_ HB hb; clear hb hbox hg; have hnb26 := NB455_442.out; have hnc26 := NB442_455.out; have hnb27 := NB455_443.out; have hnc27 := NB443_455.out; have hcz28_0 : w25.cell? ⟨gb455, 0, none⟩ = some (.int .i64 0) := (blk_cell BK455.out 0).trans rfl; have hcz28_1 : w25.cell? ⟨gb455, 1, none⟩ = some (.int .i64 0) := (blk_cell BK455.out 1).trans rfl; have hcz28_2 : w25.cell? ⟨gb455, 2, none⟩ = some (.int .i64 0) := (blk_cell BK455.out 2).trans rfl; have hfz28_0 := blk_frozen BK455.out 0; have hfz28_1 := blk_frozen BK455.out 1; have hfz28_2 := blk_frozen BK455.out 2) | ((with_reducible refine gate_callee (f := 89) rfl ?_); refine goesL_ (some 49) rfl rfl Try.func89 (by kernel_rfl) rfl #[.int .i64 a0, .agg #[.int .i64 t451, .int .i64 t452, .int .i64 t453]] rfl (by (try simp only [List.map_toArray, List.map_cons, List.map_nil]); first | done | rfl | (simp only [List.length_drop, List.length_take]; rfl)) ?_; (with_reducible refine (spec_l10Digit.calls k2 a0 t451 t452 t453 t456 _ A20.out).mono ?_); rintro e w29 ⟨rfl, hb⟩; refine ⟨_, rfl, ?_⟩; replace HO_9 := Aside0.mk (Kd.R_below (by (with_reducible repeat (first | apply Kd.R_alloc | apply Kd.R_drewN | apply Kd.R_drew)); exact (Kd.R_mono (Kd.R_far (p := ⟨gb455, 2, none⟩) (Kd.R_far (p := ⟨gb455, 1, none⟩) (Kd.R_far (p := ⟨gb455, 0, none⟩) (Kd.R_types HO_9.out BK455.out (by decide)) (fun _ hk => hk.2) (.int .i64 t451)) (fun _ hk => hk.2) (.int .i64 t452)) (fun _ hk => hk.2) (.int .i64 t453)) (fun _ h_ => h_.1))) hb); replace BK442 := Aside0.mk (blk_below (g := gb442) (o := .cells #[.int .i64 a1_0, .int .i64 a1_1, .int .i64 a1_2] 28 (0, 0)) (by (with_reducible repeat first | apply blk_drewN | apply blk_drew | apply blk_alloc); refine blk_far ?_ NB442_455.out _; (with_reducible repeat first | apply blk_drewN | apply blk_drew | apply blk_alloc); refine blk_far ?_ NB442_455.out _; (with_reducible repeat first | apply blk_drewN | apply blk_drew | apply blk_alloc); refine blk_far ?_ NB442_455.out _; (with_reducible repeat first | apply blk_drewN | apply blk_drew | apply blk_alloc); exact BK442.out) hb); replace BK443 := Aside0.mk (blk_below (g := gb443) (o := .cells #[.int .i64 a2_0, .int .i64 a2_1, .int .i64 a2_2] 28 (0, 0)) (by (with_reducible repeat first | apply blk_drewN | apply blk_drew | apply blk_alloc); refine blk_far ?_ NB443_455.out _; (with_reducible repeat first | apply blk_drewN | apply blk_drew | apply blk_alloc); refine blk_far ?_ NB443_455.out _; (with_reducible repeat first | apply blk_drewN | apply blk_drew | apply blk_alloc); refine blk_far ?_ NB443_455.out _; (with_reducible repeat first | apply blk_drewN | apply blk_drew | apply blk_alloc); exact BK443.out) hb); replace BK455 := Aside0.mk (blk_below (g := gb455) (o := .cells #[.int .i64 t451, .int .i64 t452, .int .i64 t453] 28 (0, 0)) (by (with_reducible repeat first | apply blk_drewN | apply blk_drew | apply blk_alloc); refine blk_put (cs := #[.int .i64 t451, .int .i64 t452, .int .i64 0]) ?_ 2 _ rfl; (with_reducible repeat first | apply blk_drewN | apply blk_drew | apply blk_alloc); refine blk_put (cs := #[.int .i64 t451, .int .i64 0, .int .i64 0]) ?_ 1 _ rfl; (with_reducible repeat first | apply blk_drewN | apply blk_drew | apply blk_alloc); refine blk_put (cs := #[.int .i64 0, .int .i64 0, .int .i64 0]) ?_ 0 _ rfl; (with_reducible repeat first | apply blk_drewN | apply blk_drew | apply blk_alloc); exact BK455.out) hb); replace HB := bt_ HB hb; (try clear hb); (try clear hb2); (try clear hk); (try clear hi)) | ((with_reducible refine gate_builtin (b := .append) (xs := #[.tmp 46, .tmp 52]) rfl ?_); at_builtin; refine Kd.R_append (Kd.int .u8) (w0 := w) w.heap.size rfl (.tmp 46) (.tmp 52) 100 5 (.int .u8 0) 1 rfl Try.underlying100 info5 rfl (by decide) (by omega) u9 x9_2 ((wrap64 (48 + t456)) % 256) [.int .u8 ((wrap64 (48 + t456)) % 256)] (fun _ => True) (fun _ => False) rfl rfl ?aP (fun _ hk => hk.elim) ?aF ?aO ?aB ?aS ?aL ?_; (case aP => exact rfl); (case aB => exact (bw_ HB).out); (case aF => exact (fun _ _ => trivial)); (case aO => exact (by (with_reducible repeat (first | apply Kd.R_alloc | apply Kd.R_drewN | apply Kd.R_drew)); exact HO_9.out)); (case aS => exact (below_size (bw_ HB).out)); (case aL => have := LMc21.out; omega); intro v458 w30 ho hb hg hat; rw [← Ny457.out] at ho; have n0_ := Aside0.mk (blk_grown (g := gb442) (o := .cells #[.int .i64 a1_0, .int .i64 a1_1, .int .i64 a1_2] 28 (0, 0)) (bl_ BK442).out hg (Kd.R_ne HO_9.out BK442.out (by decide))); have n1_ := Aside0.mk (blk_grown (g := gb443) (o := .cells #[.int .i64 a2_0, .int .i64 a2_1, .int .i64 a2_2] 28 (0, 0)) (bl_ BK443).out hg (Kd.R_ne HO_9.out BK443.out (by decide))); have n2_ := Aside0.mk (blk_grown (g := gb455) (o := .cells #[.int .i64 t451, .int .i64 t452, .int .i64 t453] 28 (0, 0)) (bl_ BK455).out hg (Kd.R_ne HO_9.out BK455.out (by decide))); have n3_ := Aside0.mk (hb); have n4_ := Aside0.mk (ho); clear BK442; clear BK443; clear BK455; clear HB; clear HO_9; have BK442 := n0_; have BK443 := n1_; have BK455 := n2_; have HB := n3_; have HO459 := n4_; clear n0_ n1_ n2_ n3_ n4_; clear ho hb hg hat))
         go_roundg k2
         case measure => have := HK1.out; have := HK2.out; omega
         case rel => exact ⟨(y457), (wrap64 (x11_2 + 1)), (by first | rfl | (simp; done) | (simp [*]; done) | (simp [wrap64]; done)), H', ⟨by have := HK1.out; have := HK2.out; omega⟩, ⟨by (with_reducible repeat (first | apply Kd.R_alloc | apply Kd.R_drewN | apply Kd.R_drew)); exact HO459.out⟩, bl_ BK442, bl_ BK443, bw_ HB⟩
        ·rw [if_neg c21] at H
         exact absurd H (by simp)
       ·replace c19 := Bool.eq_false_iff.mpr c19
        subst c19
        have H1 : (some ((⟨#[]⟩ : ByteArray), false)) = some (r1, r2) := by rw [if_neg (show ¬ (false = true) by decide)] at H; exact H
        clear H
        have H := H1
        clear H1
        simp only [Option.some.injEq, Prod.mk.injEq] at H
        obtain ⟨rfl, rfl⟩ := H
        have hnb31 := NB443_442.out
        have hnc31 := NB442_443.out
        have hcz32_0 : wr.cell? ⟨gb443, 0, none⟩ = some (.int .i64 a2_0) := (blk_cell BK443.out 0).trans rfl
        have hcz32_1 : wr.cell? ⟨gb443, 1, none⟩ = some (.int .i64 a2_1) := (blk_cell BK443.out 1).trans rfl
        have hcz32_2 : wr.cell? ⟨gb443, 2, none⟩ = some (.int .i64 a2_2) := (blk_cell BK443.out 2).trans rfl
        have hfz32_0 := blk_frozen BK443.out 0
        have hfz32_1 := blk_frozen BK443.out 1
        have hfz32_2 := blk_frozen BK443.out 2
        go_wp2_with (first | ((with_reducible refine gate_callee (f := 88) rfl ?_); refine goesL_ (some 41) rfl rfl Try.func88 (by kernel_rfl) rfl #[.int .i64 a0, .agg #[.int .i64 a2_0, .int .i64 a2_1, .int .i64 a2_2], .int .i64 x11_2] rfl (by (try simp only [List.map_toArray, List.map_cons, List.map_nil]); first | done | rfl | (simp only [List.length_drop, List.length_take]; rfl)) ?_; (with_reducible refine (spec_l02Up.calls k2 a0 a2_0 a2_1 a2_2 x11_2 t451 t452 t453 false _ A18.out).mono ?_); rintro e w33 ⟨rfl, hb⟩; refine ⟨_, rfl, ?_⟩; replace HO_9 := Aside0.mk (Kd.R_below (by (with_reducible repeat (first | apply Kd.R_alloc | apply Kd.R_drewN | apply Kd.R_drew)); exact HO_9.out) hb); replace BK442 := bb_ BK442 hb; replace BK443 := bb_ BK443 hb; replace HB := bt_ HB hb; (try clear hb); (try clear hb2); (try clear hk); (try clear hi)) | ((with_reducible refine gate_dst (N := 12) rfl ?_); refine bx_ 12 #[.int .i64 0, .int .i64 0, .int .i64 0] 28 ?_; intro gb455 hg w34 hbox hb; have BK455 := Aside0.mk (hbox); have GW455 := bs_ HB hg; have GE455 := bs_ HB hg; have NB442_455 := bm_ BK442 hg; have NB455_442 := bn_ BK442 hg; have NB443_455 := bm_ BK443 hg; have NB455_443 := bn_ BK443 hg; replace HO_9 := Aside0.mk (Kd.R_below (by (with_reducible repeat (first | apply Kd.R_alloc | apply Kd.R_drewN | apply Kd.R_drew)); exact HO_9.out) hb); replace BK442 := bb_ BK442 hb; replace BK443 := bb_ BK443 hb; replace HB := bt_ HB hb; clear hb hbox hg; have hnb35 := NB455_442.out; have hnc35 := NB442_455.out; have hnb36 := NB455_443.out; have hnc36 := NB443_455.out; have hcz37_0 : w34.cell? ⟨gb455, 0, none⟩ = some (.int .i64 0) := (blk_cell BK455.out 0).trans rfl; have hcz37_1 : w34.cell? ⟨gb455, 1, none⟩ = some (.int .i64 0) := (blk_cell BK455.out 1).trans rfl; have hcz37_2 : w34.cell? ⟨gb455, 2, none⟩ = some (.int .i64 0) := (blk_cell BK455.out 2).trans rfl; have hfz37_0 := blk_frozen BK455.out 0; have hfz37_1 := blk_frozen BK455.out 1; have hfz37_2 := blk_frozen BK455.out 2))
        go_ret2
        exact ⟨by first | rfl | (simp [errW_none, errW_some] <;> rfl) | (simp [*, errW_none, errW_some] <;> rfl), by repeat (first | (with_reducible first | exact HB.out | apply below_alloc | apply pw_below_drewN | apply below_drew1 | refine below_set ?_ GE442.out | refine below_set ?_ GE443.out | refine below_set ?_ GE455.out) | exact HB.out)⟩
      ·rw [if_neg c17] at H
       have c17b0 : decide (x11_2 ≤ a2_0) = false := decide_eq_false c17
       clear c17
       simp only [Option.some.injEq, Prod.mk.injEq] at H
       obtain ⟨rfl, rfl⟩ := H
       have hnb38 := NB443_442.out
       have hnc38 := NB442_443.out
       have hcz39_0 : wr.cell? ⟨gb443, 0, none⟩ = some (.int .i64 a2_0) := (blk_cell BK443.out 0).trans rfl
       have hcz39_1 : wr.cell? ⟨gb443, 1, none⟩ = some (.int .i64 a2_1) := (blk_cell BK443.out 1).trans rfl
       have hcz39_2 : wr.cell? ⟨gb443, 2, none⟩ = some (.int .i64 a2_2) := (blk_cell BK443.out 2).trans rfl
       have hfz39_0 := blk_frozen BK443.out 0
       have hfz39_1 := blk_frozen BK443.out 1
       have hfz39_2 := blk_frozen BK443.out 2
       have hcv40 := own_string (P := Try.prog) Try.underlying100 Try.underlying5 Try.underlying9 (Kd.own_of_R HO_9.out)
       go_wp2
       go_ret2
       exact ⟨by first | rfl | (simp [errW_none, errW_some] <;> rfl) | (simp [*, errW_none, errW_some] <;> rfl), by repeat (first | (with_reducible first | exact HB.out | apply below_alloc | apply pw_below_drewN | apply below_drew1 | refine below_set ?_ GE442.out | refine below_set ?_ GE443.out) | exact HB.out)⟩
end Go.Proofs.Ytojpcbbmbnmchaa.QC
