import Derived.Test.YtgoeelhiffbjlaaQBx26
import Derived.Test.YtgoeelhiffbjlaaQBx28
import Derived.Test.YtgoeelhiffbjlaaQBx31
namespace Go.Proofs.Ytgoeelhiffbjlaa.QB
open Go.RowKit YtgoeelhiffbjlaaW.PrintWords YtgoeelhiffbjlaaW.PrintLast YtgoeelhiffbjlaaW.PrintMore
attribute [local go_sem] isSome_setCell max2_int min2_int max_two min_two max_three min_three max_four min_four
set_option linter.unusedVariables false
set_option linter.unusedSimpArgs false
mutual
def spec_BringOut.j0 : Nat → Int → List (S46) → List (S150) → Int → Bool → Int → Int → Option (List Int × Int × Int × Int)
 | 0, _, _, _, _, _, _, _ => none
 | k + 1, x0, x1, x2, x11, x27, x238000, x238001 => if x27 = true then (some (([] : List Int), 0, 0, 1)) else (if x11 = 0 then ((spec_l09Ready.f k x0 x1 x2).bind fun t241 => (spec_BringOut.j1 k x0 x1 x2 t241 x238000 x238001)) else (spec_BringOut.j1 k x0 x1 x2 x11 x238000 x238001))
def spec_BringOut.j1 : Nat → Int → List (S46) → List (S150) → Int → Int → Int → Option (List Int × Int × Int × Int)
 | 0, _, _, _, _, _, _ => none
 | k + 1, x0, x1, x2, x11, x238000, x238001 => if x11 = 0 then (spec_BringOut.l0 k x0 x1 x2 (([] : List Int)) x238000 x238001) else (some (([] : List Int), 0, 0, x11))
def spec_BringOut.l0 : Nat → Int → List (S46) → List (S150) → List Int → Int → Int → Option (List Int × Int × Int × Int)
 | 0, _, _, _, _, _, _ => none
 | k + 1, x0, x1, x2, x12, x238000, x238001 => spec_BringOut.l1 k x0 x1 x2 x12 0 0 x238000 x238001
def spec_BringOut.l1 : Nat → Int → List (S46) → List (S150) → List Int → Int → Int → Int → Int → Option (List Int × Int × Int × Int)
 | 0, _, _, _, _, _, _, _, _ => none
 | k + 1, x0, x1, x2, x12, x13, x14, x238000, x238001 => if x14 < (x2.length : Int) then (if 0 ≤ x14 then ((spec_l09Has.f k x0 ((rd_T150 x2 x14).f0.f0) ((rd_T150 x2 x14).f0.f1) ((rd_T150 x2 x14).f0.f2) ((rd_T150 x2 x14).f1) x238000 x238001).bind fun t246 => (if t246 = true then (if (Int.tmod x14 2) = 0 then (spec_BringOut.l1 k x0 x1 x2 x12 (wrap64 (-(wrap64 ((wrap64 (Int.tdiv x14 2)) + 1)))) (wrap64 (x14 + 1)) x238000 x238001) else (spec_BringOut.l1 k x0 x1 x2 x12 (wrap64 ((wrap64 (Int.tdiv x14 2)) + 1)) (wrap64 (x14 + 1)) x238000 x238001)) else (spec_BringOut.l1 k x0 x1 x2 x12 x13 (wrap64 (x14 + 1)) x238000 x238001))) else (none)) else (if x13 = 0 then (some (x12, x238000, x238001, 0)) else (if (x12.length : Int) = 12 then (some (([] : List Int), 0, 0, 4)) else ((spec_l09Letter.f k x1 (wrap64 (-x13))).bind fun bt247 => ((spec_l04End.f k bt247.1 bt247.2.1 bt247.2.2.1 bt247.2.2.2 x238000 x238001).bind fun bt251 => (if bt251.2.2 = true then (if x12.length < 17592186044416 then (spec_BringOut.l0 k x0 x1 x2 (x12 ++ [x13]) bt251.1 bt251.2.1) else (none)) else (some (([] : List Int), 0, 0, 3)))))))
end
def spec_BringOut.f (k : Nat) (a0 : Int) (l1 : List (S46)) (l2 : List (S150)) (a3_0 a3_1 : Int) : Option (List Int × Int × Int × Int) := (spec_l09List.f k a0 l1 l2).bind fun t239 => (if t239 = 1 then (spec_BringOut.j0 k a0 l1 l2 t239 true a3_0 a3_1) else ((spec_l01End.f k a3_0 a3_1).bind fun t240 => (spec_BringOut.j0 k a0 l1 l2 t239 (!t240) a3_0 a3_1)))
def spec_BringOut.T21 : Bool × List (List Nat × List Nat) := (true, [([], []), ([], []), ([1], [1]), ([0, 2], [0, 2]), ([], []), ([3, 4, 3], [3, 4]), ([5], [5]), ([6], [6]), ([6], [6]), ([], []), ([9, 7, 5, 0, 1, 2, 3, 4, 5, 6, 7, 9], [7, 9]), ([8, 10, 0, 1, 2, 3, 4, 5, 6, 7, 8, 9, 10], [8])])
def spec_BringOut.B21 : List Nat := [0, 0, 2, 7, 0, 31, 63, 127, 127, 0, 767, 2047]
theorem spec_BringOut.tab21 : rtab .any (opsOf Try.f60 21) = spec_BringOut.T21 := by kernel_rfl
theorem spec_BringOut.bits21 : waitsOk spec_BringOut.T21.2 spec_BringOut.B21 = true := by kernel_rfl
set_option maxHeartbeats 8000000 in
set_option maxRecDepth 100000 in
theorem spec_BringOut.calls (k : Nat) (a0 : Int) (A1 : Option Addr) (c1 : Nat) (l1 : List (S46)) (A2 : Option Addr) (c2 : Nat) (l2 : List (S150)) (a3_0 a3_1 : Int) (r1 : List Int) (r2 r3 r4 : Int) (w : World) (hr1 : Kd.C k46 w A1 l1.length l1) (hc1 : l1.length ≤ c1) (hr2 : Kd.C k150 w A2 l2.length l2) (hc2 : l2.length ≤ c2) (h : spec_BringOut.f k a0 l1 l2 a3_0 a3_1 = some (r1, r2, r3, r4)) :
  Calls Try.prog 60 #[.int .i64 a0, .slice A1 l1.length c1, .slice A2 l2.length c2, .agg #[.int .i64 a3_0, .int .i64 a3_1]] w fun e w' => ∃ v0_ : Value, e = .returned (.tuple #[v0_, .agg #[.int .i64 r2, .int .i64 r3], .int .i64 r4]) ∧ Kd.R (Kd.int .i64) 2 w' w.heap.size (fun _ => True) v0_ r1 ∧ Below w.heap.size w w' := by
 have hu74 := Try.underlying74
 have hu150 := Try.underlying150
 have HR1 := Aside0.mk hr1
 have HC1 := Aside0.mk hc1
 clear hr1 hc1
 have HR2 := Aside0.mk hr2
 have HC2 := Aside0.mk hc2
 clear hr2 hc2
 have HB := Aside0.mk (Below.refl w.heap.size w)
 unfold spec_BringOut.f at h
 have H := h
 clear h
 replace H := oc_ H
 obtain ⟨t239, A5, H⟩ := H
 have HC6 := Aside0.mk H
 clear H
 go_enter Try.func60, Try.ntmps60
 go_upto_region 2 with (first | ((refine gd_ 7 ?_); refine by_ 7 #[.int .i64 a3_0, .int .i64 a3_1] 74 HB ?_; intro gb237 hg w7 BK237 hb GW237 HB_; replace HB := HB_; clear hb hg) | ((refine gd_ 9 ?_); refine by_ 9 #[.int .i64 0, .int .i64 0] 74 HB ?_; intro gb238 hg w8 BK238 hb GW238 HB_; have NB237_238 := bm_ BK237 hg; have NB238_237 := bn_ BK237 hg; replace BK237 := bb_ BK237 hb; replace HB := HB_; clear hb hg) | ((refine gc_ 132 ?_); refine ge_ 20 Try.func132 #[.int .i64 a0, .slice A1 l1.length c1, .slice A2 l2.length c2] ?_; (with_reducible refine (spec_l09List.calls k a0 _ _ l1 _ _ l2 t239 _ ?side1 ?side2 ?side3 ?side4 A5.out).mono ?_); (case side1 => exact ca_ (Kd.C_below HR1.out HB.out)); (case side2 => exact HC1.out); (case side3 => exact ca_ (Kd.C_below HR2.out HB.out)); (case side4 => exact HC2.out); rintro e w9 ⟨rfl, hb⟩; refine ⟨_, rfl, ?_⟩; replace BK237 := bb_ BK237 hb; replace BK238 := bb_ BK238 hb; replace HB := bt_ HB hb; (try clear hb)))
 (try simp only [Act.put, lstS, lstZ, lstC])
 go_cut [27] (fun v27 wc => ∃ (kq : Nat) (x27_5 : Bool), v27 = .bool x27_5 ∧ Aside0 (spec_BringOut.j0 kq a0 l1 l2 t239 x27_5 a3_0 a3_1 = some (r1, r2, r3, r4)) ∧ Aside0 (kq ≤ k) ∧ Aside0 (wc.heap[gb237]? = some (.cells #[.int .i64 a3_0, .int .i64 a3_1] 74 (0, 0))) ∧ Aside0 (wc.heap[gb238]? = some (.cells #[.int .i64 0, .int .i64 0] 74 (0, 0))) ∧ Aside0 (Below w.heap.size w wc))
 case first =>
  have H := HC6.out
  clear HC6
  replace H := ie_ H
  rcases H with ⟨c10b0, c10b1, H⟩ | ⟨c10, c10b0, c10b1, H⟩
  ·(first | rw [c10b0] | (simp only [i64_w, i32_w]; rw [c10b0]) | skip)
   have H' := Aside0.mk H
   clear H
   go_wp2
   go_meet
   case rel => exact ⟨_, (true), en_, H', ⟨by first | omega | exact Nat.le_refl _⟩, bl_ BK237, bl_ BK238, bw_ HB⟩
  (first | rw [c10b0] | (simp only [i64_w, i32_w]; rw [c10b0]) | skip)
  replace H := oc_ H
  obtain ⟨t240, A11, H⟩ := H
  have H' := Aside0.mk H
  clear H
  have hnb12 := NB237_238.out
  have hnc12 := NB238_237.out
  obtain ⟨hcz13_0, hcz13_1, hfz13_0, hfz13_1⟩ := ch2_ BK237
  go_wp2_with (first | (go_at_call 133; (with_reducible refine (spec_l01End.calls k a3_0 a3_1 t240 _ A11.out).mono ?_); rintro e w14 ⟨rfl, hb⟩; replace BK237 := bb_ BK237 hb; replace BK238 := bb_ BK238 hb; replace HB := bt_ HB hb; (try clear hb)))
  go_meet
  case rel => exact ⟨_, (!t240), en_, H', ⟨by first | omega | exact Nat.le_refl _⟩, bl_ BK237, bl_ BK238, bw_ HB⟩
 clear HC6
 try clear c1
 try clear c2
 try clear c10
 try clear c10b0
 try clear c10b1
 try clear hcz13_0 hcz13_1
 try clear hfz13_0 hfz13_1
 obtain ⟨kq, x27_5, rfl, HA, HJ5, BK237, BK238, HB⟩ := hcut
 cases kq with
 | zero => exact absurd HA.out (by simp [spec_BringOut.j0])
 | succ kj5 =>
  have H := HA.out
  clear HA
  simp only [spec_BringOut.j0] at H
  replace H := ib_ H
  rcases H with ⟨rfl, H⟩ | ⟨rfl, H⟩
  ·simp only [Option.some.injEq, Prod.mk.injEq] at H
   obtain ⟨rfl, rfl, rfl, rfl⟩ := H
   have hnb16 := NB238_237.out
   have hnc16 := NB237_238.out
   obtain ⟨hcz17_0, hcz17_1, hfz17_0, hfz17_1⟩ := ch2_ BK238
   go_wp2
   refine bodyPost_ret (results_list (rs := [.tmp 8, .cell 9 74, .tmp 10]) rfl (by simp) (.tmp (.cell gb238 74 #[.int .i64 0, .int .i64 0] (0, 0) _ rfl (bp_ BK238).out Try.underlying74 rfl (by kernel_rfl) (.tmp .nil)))) rfl ?_
   exact ⟨_, es_, by first | exact Kd.R_nil _ _ _ _ _ | exact Kd.N_nil _ _ _ _ _ | exact Kd.V_nil _ _ _ _ _ | exact Kd.Q_nil _ _ _ _ _ | exact Kd.S_nil _ _ _ _ _, (bw_ HB).out⟩
  have HC18 := Aside0.mk H
  clear H
  go_upto_if 30 with (fail)
  go_cut [11] (fun v11 wc => ∃ (kq : Nat) (x11_17 : Int), v11 = .int .i64 x11_17 ∧ Aside0 (spec_BringOut.j1 kq a0 l1 l2 x11_17 a3_0 a3_1 = some (r1, r2, r3, r4)) ∧ Aside0 (kq ≤ kj5) ∧ Aside0 (wc.heap[gb237]? = some (.cells #[.int .i64 a3_0, .int .i64 a3_1] 74 (0, 0))) ∧ Aside0 (wc.heap[gb238]? = some (.cells #[.int .i64 0, .int .i64 0] 74 (0, 0))) ∧ Aside0 (Below w.heap.size w wc))
  case first =>
   have H := HC18.out
   clear HC18
   replace H := ie_ H
   rcases H with ⟨c19b0, c19b1, H⟩ | ⟨c19, c19b0, c19b1, H⟩
   ·(first | rw [c19b0] | (simp only [i64_w, i32_w]; rw [c19b0]) | skip)
    replace H := oc_ H
    obtain ⟨t241, A20, H⟩ := H
    have H' := Aside0.mk H
    clear H
    go_wp2_with (first | ((refine gc_ 134 ?_); refine ge_ 34 Try.func134 #[.int .i64 a0, .slice A1 l1.length c1, .slice A2 l2.length c2] ?_; (with_reducible refine (spec_l09Ready.calls kj5 a0 _ _ l1 _ _ l2 t241 _ ?side1 ?side2 ?side3 ?side4 A20.out).mono ?_); (case side1 => exact ca_ (Kd.C_below HR1.out (bw_ HB).out)); (case side2 => exact HC1.out); (case side3 => exact ca_ (Kd.C_below HR2.out (bw_ HB).out)); (case side4 => exact HC2.out); rintro e w21 ⟨rfl, hb⟩; refine ⟨_, rfl, ?_⟩; replace BK237 := bb_ BK237 hb; replace BK238 := bb_ BK238 hb; replace HB := bt_ HB hb; (try clear hb)))
    go_meet
    case rel => exact ⟨_, (t241), en_, H', ⟨by have := HJ5.out; first | omega | exact Nat.le_refl _⟩, bl_ BK237, bl_ BK238, bw_ HB⟩
   (first | rw [c19b0] | (simp only [i64_w, i32_w]; rw [c19b0]) | skip)
   have H' := Aside0.mk H
   clear H
   go_wp2
   go_meet
   case rel => exact ⟨_, (t239), en_, H', ⟨by have := HJ5.out; first | omega | exact Nat.le_refl _⟩, bl_ BK237, bl_ BK238, bw_ HB⟩
  clear HC18
  try clear c1
  try clear c2
  try clear c10
  try clear c10b0
  try clear c10b1
  try clear c19
  try clear c19b0
  try clear c19b1
  try clear hcz13_0 hcz13_1
  try clear hcz17_0 hcz17_1
  try clear hfz13_0 hfz13_1
  try clear hfz17_0 hfz17_1
  obtain ⟨kq, x11_17, rfl, HA, HJ17, BK237, BK238, HB⟩ := hcut
  cases kq with
  | zero => exact absurd HA.out (by simp [spec_BringOut.j1])
  | succ kj17 =>
   have H := HA.out
   clear HA
   simp only [spec_BringOut.j1] at H
   replace H := ie_ H
   rcases H with ⟨c22b0, c22b1, H⟩ | ⟨c22, c22b0, c22b1, H⟩
   ·obtain ⟨y242, hy242⟩ : ∃ y_ : List Int, y_ = (([] : List Int)) := ⟨_, rfl⟩
    replace H : (spec_BringOut.l0 kj17 a0 l1 l2 y242 a3_0 a3_1) = some (r1, r2, r3, r4) := by first | (rw [hy242]; with_reducible exact H) | (have H2_ := (Option.bind_some _ _).symm.trans H; rw [hy242]; with_reducible exact H2_) | (have H2_ := (Option.bind_some _ _).symm.trans H; with_reducible exact H2_) | with_reducible exact H | (rw [hy242]; exact H) | exact H
    have Ny242 := Aside0.mk hy242
    clear hy242
    have H' := Aside0.mk H
    clear H
    go_wp2_with (first | ((refine gd_ 39 ?_); refine Kd.R_lit (Kd.int .i64) _ 2 ?hg (N := 39) ?hd (xs := ([] : List Int)) (inner := []) (ok := fun _ => True) (okp := fun _ => True) ?hr ?hp (fun _ hk => hk) trivial (Below.refl _ _) (Nat.le_refl _) (by simp) ?_; (case hd => rfl); (case hg => rfl); (case hr => first | (go_simp; done) | (go_simp; rfl)); (case hp => exact (Reps.none _ _)); intro v243 w23 ho24 hb hg_ hnew_; clear hg_ hnew_; (first | rw [← Ny242.out] at ho24 | (simp only [Int.reduceToNat] at ho24; rw [← Ny242.out] at ho24)); have HO244 := Aside0.mk (Kd.R_lower ho24 (below_size (bw_ HB).out)); replace BK237 := bb_ BK237 hb; replace BK238 := bb_ BK238 hb; replace HB := bt_ HB hb; clear hb ho24))
    go_loopg [12] kj17 (fun kq v12 w' => ∃ (x12_3 : List Int) (x238000_3 : Int) (x238001_3 : Int) (x239000_3 : Int) (x239001_3 : Int), Aside0 (spec_BringOut.l0 kq a0 l1 l2 x12_3 x238000_3 x238001_3 = some (r1, r2, r3, r4)) ∧ Aside0 (kq ≤ kj17) ∧ Aside0 (Kd.R (Kd.int .i64) 2 w' w.heap.size (fun _ => True) v12 x12_3) ∧ Aside0 (w'.heap[gb237]? = some (.cells #[.int .i64 x238000_3, .int .i64 x238001_3] 74 (0, 0))) ∧ Aside0 (w'.heap[gb238]? = some (.cells #[.int .i64 x239000_3, .int .i64 x239001_3] 74 (0, 0))) ∧ Aside0 (Below w.heap.size w w'))
    case atStart => exact ⟨(y242), (a3_0), (a3_1), (0), (0), H', ⟨Nat.le_refl _⟩, ⟨by (with_reducible repeat (first | apply Kd.R_alloc | apply Kd.R_drewN | apply Kd.R_drew)); exact HO244.out⟩, bl_ BK237, bl_ BK238, bw_ HB⟩
    clear H'
    try clear c1
    try clear c2
    try clear c10
    try clear c10b0
    try clear c10b1
    try clear c19
    try clear c19b0
    try clear c19b1
    try clear c22
    try clear c22b0
    try clear c22b1
    try clear hcz13_0 hcz13_1
    try clear hcz17_0 hcz17_1
    try clear hfz13_0 hfz13_1
    try clear hfz17_0 hfz17_1
    obtain ⟨x12_3, x238000_3, x238001_3, x239000_3, x239001_3, HA, HK3, HO_12, BK237, BK238, HB⟩ := hrel
    cases gk with
    | zero => exact absurd HA.out (by simp [spec_BringOut.l0])
    | succ k3 =>
     have H := HA.out
     clear HA
     simp only [spec_BringOut.l0] at H
     have H' := Aside0.mk H
     clear H
     go_wp2
     go_loopg [13, 14] k3 (fun kq v13 v14 w' => ∃ (x13_4 : Int) (x14_4 : Int), v13 = .int .i64 x13_4 ∧ v14 = .int .i64 x14_4 ∧ Aside0 (spec_BringOut.l1 kq a0 l1 l2 x12_3 x13_4 x14_4 x238000_3 x238001_3 = some (r1, r2, r3, r4)) ∧ Aside0 (kq ≤ k3) ∧ Aside0 (Kd.R (Kd.int .i64) 2 w' w.heap.size (fun _ => True) u12 x12_3) ∧ Aside0 (w'.heap[gb237]? = some (.cells #[.int .i64 x238000_3, .int .i64 x238001_3] 74 (0, 0))) ∧ Aside0 (w'.heap[gb238]? = some (.cells #[.int .i64 x239000_3, .int .i64 x239001_3] 74 (0, 0))) ∧ Aside0 (Below w.heap.size w w'))
     case atStart => exact ⟨(0), (0), en_, en_, H', ⟨Nat.le_refl _⟩, ⟨by (with_reducible repeat (first | apply Kd.R_alloc | apply Kd.R_drewN | apply Kd.R_drew)); exact HO_12.out⟩, bl_ BK237, bl_ BK238, bw_ HB⟩
     clear H'
     try clear c1
     try clear c2
     try clear c10
     try clear c10b0
     try clear c10b1
     try clear c19
     try clear c19b0
     try clear c19b1
     try clear c22
     try clear c22b0
     try clear c22b1
     try clear hcz13_0 hcz13_1
     try clear hcz17_0 hcz17_1
     try clear hfz13_0 hfz13_1
     try clear hfz17_0 hfz17_1
     obtain ⟨x13_4, x14_4, rfl, rfl, HA, HK4, HO_12, BK237, BK238, HB⟩ := hrel
     cases gk with
     | zero => exact absurd HA.out (by simp [spec_BringOut.l1])
     | succ k4 =>
      have H := HA.out
      clear HA
      simp only [spec_BringOut.l1] at H
      replace H := il_ H
      rcases H with ⟨c25b0, H⟩ | ⟨c25b0, H⟩
      ·replace H := imn_ H
       obtain ⟨c26b0, H⟩ := H
       replace H := oc_ H
       obtain ⟨t246, A27, H⟩ := H
       replace H := ib_ H
       rcases H with ⟨rfl, H⟩ | ⟨rfl, H⟩
       ·replace H := ie_ H
        rcases H with ⟨c29b0, c29b1, H⟩ | ⟨c29, c29b0, c29b1, H⟩
        ·have H' := Aside0.mk H
         clear H
         try go_wp2
         replace HO_12 := Aside0.mk (Kd.R_drew HO_12.out)
         replace BK237 := bd_ BK237
         replace BK238 := bd_ BK238
         replace HB := be_ HB
         have p245 : 0 ≤ (x14_4 : Int) := od_
         have q245 : x14_4 < (l2.length : Int) := od_
         obtain ⟨ad245, e245, hx245_0, hx245_1, hx245_2, hx245_3⟩ := at_T150 HR2.out x14_4 p245 q245
         have hw245_3 := hx245_3
         have hw245_2 := hx245_2
         have hw245_1 := hx245_1
         have hw245_0 := hx245_0
         cases e245
         replace hx245_0 := clTr HB.out hx245_0
         replace hx245_1 := clTr HB.out hx245_1
         replace hx245_2 := clTr HB.out hx245_2
         replace hx245_3 := clTr HB.out hx245_3
         replace p245 := eq_true p245
         replace q245 := eq_true q245
         refine start_ (n := 7) (S := fun w' => w'.cell? ⟨gb237, 0, none⟩ = some (.int .i64 x238000_3) ∧ w'.cell? ⟨gb237, 1, none⟩ = some (.int .i64 x238001_3) ∧ w'.cell? (ad245.add ((x14_4).toNat * 4)) = some (.int .i64 ((rd_T150 l2 x14_4).f0.f0)) ∧ w'.cell? ⟨(ad245.add ((x14_4).toNat * 4)).block, (ad245.add ((x14_4).toNat * 4)).off + 1, none⟩ = some (.int .i64 ((rd_T150 l2 x14_4).f0.f1)) ∧ w'.cell? ⟨(ad245.add ((x14_4).toNat * 4)).block, (ad245.add ((x14_4).toNat * 4)).off + 2, none⟩ = some (.int .i64 ((rd_T150 l2 x14_4).f0.f2)) ∧ w'.cell? ⟨(ad245.add ((x14_4).toNat * 4)).block, (ad245.add ((x14_4).toNat * 4)).off + 3, none⟩ = some (.bool ((rd_T150 l2 x14_4).f1))) (ds := []) (bv_ 7 0) (by kernel_rfl) rfl rfl ⟨cz_ BK237 0, cz_ BK237 1, (clTr HB.out hw245_0 :), (clTr HB.out hw245_1 :), (clTr HB.out hw245_2 :), (clTr HB.out hw245_3 :)⟩ (fun hHeld => ?_)
         generalize wr.drew = w30 at HO_12 BK237 BK238 HB hx245_0 hx245_1 hx245_2 hx245_3 hHeld ⊢
         refine pure_ (i := 0) (N := some 46) (v := ?_) (a' := ?_) (bv_ 7 1) rfl rfl (by kernel_rfl) (fun _ _ _ h => h) (Or.inl ⟨by rfl, ?_⟩) ?_ ?_
         rotate_left
         ·intro w'
          go_simp
          with_reducible rfl
         rotate_left
         ·simp only [Act.put, lstS, lstZ, lstC, i64_w, i32_w]
          rfl
         refine pure_ (i := 1) (N := some 47) (v := ?_) (a' := ?_) (bv_ 7 3) rfl rfl (by kernel_rfl) (fun _ _ _ h => h) (Or.inl ⟨by rfl, ?_⟩) ?_ ?_
         rotate_left
         ·intro w'
          go_simp
          with_reducible rfl
         rotate_left
         ·simp only [Act.put, lstS, lstZ, lstC, i64_w, i32_w]
          rfl
         refine pure_ (i := 2) (N := some 48) (v := ?_) (a' := ?_) (bv_ 7 7) rfl rfl (by kernel_rfl) (fun _ _ _ h => h) (Or.inl ⟨by rfl, ?_⟩) ?_ ?_
         rotate_left
         ·intro w'
          go_simp
          with_reducible rfl
         rotate_left
         ·simp only [Act.put, lstS, lstZ, lstC, i64_w, i32_w]
          rfl
         refine pure_ (i := 3) (N := some 49) (v := ?_) (a' := ?_) (bv_ 7 15) rfl rfl (by kernel_rfl) (fun _ _ _ h => h) (Or.inl ⟨by rfl, ?_⟩) ?_ ?_
         rotate_left
         ·intro w'
          go_simp
          with_reducible rfl
         rotate_left
         ·simp only [Act.put, lstS, lstZ, lstC, i64_w, i32_w]
          rfl
         refine take_ (i := 4) (N := some 50) (v := ?_) (a' := ?_) (bv_ 7 31) rfl rfl (by kernel_rfl) (fun _ _ _ h => h) (Or.inl ⟨by rfl, ?_⟩) hHeld ?_ ?_
         rotate_left
         ·rintro w' ⟨s0, s1, s2, s3, s4, s5⟩
          go_simp
          with_reducible rfl
         rotate_left
         ·simp only [Act.put, lstS, lstZ, lstC, i64_w, i32_w]
          rfl
         refine take_ (i := 5) (N := some 51) (v := ?_) (a' := ?_) (bv_ 7 63) rfl rfl (by kernel_rfl) (fun _ _ _ h => h) (Or.inl ⟨by rfl, ?_⟩) hHeld ?_ ?_
         rotate_left
         ·rintro w' ⟨s0, s1, s2, s3, s4, s5⟩
          go_simp
          with_reducible rfl
         rotate_left
         ·simp only [Act.put, lstS, lstZ, lstC, i64_w, i32_w]
          rfl
         refine one_ (i := 6) (N := some 52) (bv_ 7 127) rfl rfl (by kernel_rfl) (by decide) (fun K hK => ?_)
         refine gs_ Try.func135 #[.int .i64 a0, .agg #[.int .i64 ((rd_T150 l2 x14_4).f0.f0), .int .i64 ((rd_T150 l2 x14_4).f0.f1), .int .i64 ((rd_T150 l2 x14_4).f0.f2), .bool ((rd_T150 l2 x14_4).f1)], .agg #[.int .i64 x238000_3, .int .i64 x238001_3]] ?_
         with_reducible refine (spec_l09Has.calls k4 a0 ((rd_T150 l2 x14_4).f0.f0) ((rd_T150 l2 x14_4).f0.f1) ((rd_T150 l2 x14_4).f0.f2) ((rd_T150 l2 x14_4).f1) x238000_3 x238001_3 true _ A27.out).mono ?_
         rintro e w31 ⟨rfl, hb⟩
         refine ⟨_, rfl, ?_⟩
         replace HO_12 := rb_ HO_12 hb
         replace BK237 := bb_ BK237 hb
         replace BK238 := bb_ BK238 hb
         replace HB := bt_ HB hb
         try clear hb
         refine hK.out _ _ ⟨cz_ BK237 0, cz_ BK237 1, (clTr HB.out hw245_0 :), (clTr HB.out hw245_1 :), (clTr HB.out hw245_2 :), (clTr HB.out hw245_3 :)⟩ (fun hHeld => ?_)
         clear hK K
         refine nm_ (some 52) ?_
         refine done_ (by kernel_rfl) ?_
         try go_wp2
         go_roundg k4
         case measure => have := HJ5.out; have := HJ17.out; have := HK3.out; have := HK4.out; omega
         case rel => exact ⟨(wrap64 (-(wrap64 ((wrap64 (Int.tdiv x14_4 2)) + 1)))), (wrap64 (x14_4 + 1)), en_, en_, H', ⟨by have := HJ5.out; have := HJ17.out; have := HK3.out; have := HK4.out; omega⟩, ⟨by (with_reducible repeat (first | apply Kd.R_alloc | apply Kd.R_drewN | apply Kd.R_drew)); exact HO_12.out⟩, bl_ BK237, bl_ BK238, bw_ HB⟩
        have H' := Aside0.mk H
        clear H
        try go_wp2
        replace HO_12 := Aside0.mk (Kd.R_drew HO_12.out)
        replace BK237 := bd_ BK237
        replace BK238 := bd_ BK238
        replace HB := be_ HB
        have p245 : 0 ≤ (x14_4 : Int) := od_
        have q245 : x14_4 < (l2.length : Int) := od_
        obtain ⟨ad245, e245, hx245_0, hx245_1, hx245_2, hx245_3⟩ := at_T150 HR2.out x14_4 p245 q245
        have hw245_3 := hx245_3
        have hw245_2 := hx245_2
        have hw245_1 := hx245_1
        have hw245_0 := hx245_0
        cases e245
        replace hx245_0 := clTr HB.out hx245_0
        replace hx245_1 := clTr HB.out hx245_1
        replace hx245_2 := clTr HB.out hx245_2
        replace hx245_3 := clTr HB.out hx245_3
        replace p245 := eq_true p245
        replace q245 := eq_true q245
        refine start_ (n := 7) (S := fun w' => w'.cell? ⟨gb237, 0, none⟩ = some (.int .i64 x238000_3) ∧ w'.cell? ⟨gb237, 1, none⟩ = some (.int .i64 x238001_3) ∧ w'.cell? (ad245.add ((x14_4).toNat * 4)) = some (.int .i64 ((rd_T150 l2 x14_4).f0.f0)) ∧ w'.cell? ⟨(ad245.add ((x14_4).toNat * 4)).block, (ad245.add ((x14_4).toNat * 4)).off + 1, none⟩ = some (.int .i64 ((rd_T150 l2 x14_4).f0.f1)) ∧ w'.cell? ⟨(ad245.add ((x14_4).toNat * 4)).block, (ad245.add ((x14_4).toNat * 4)).off + 2, none⟩ = some (.int .i64 ((rd_T150 l2 x14_4).f0.f2)) ∧ w'.cell? ⟨(ad245.add ((x14_4).toNat * 4)).block, (ad245.add ((x14_4).toNat * 4)).off + 3, none⟩ = some (.bool ((rd_T150 l2 x14_4).f1))) (ds := []) (bv_ 7 0) (by kernel_rfl) rfl rfl ⟨cz_ BK237 0, cz_ BK237 1, (clTr HB.out hw245_0 :), (clTr HB.out hw245_1 :), (clTr HB.out hw245_2 :), (clTr HB.out hw245_3 :)⟩ (fun hHeld => ?_)
        generalize wr.drew = w32 at HO_12 BK237 BK238 HB hx245_0 hx245_1 hx245_2 hx245_3 hHeld ⊢
        refine pure_ (i := 0) (N := some 46) (v := ?_) (a' := ?_) (bv_ 7 1) rfl rfl (by kernel_rfl) (fun _ _ _ h => h) (Or.inl ⟨by rfl, ?_⟩) ?_ ?_
        rotate_left
        ·intro w'
         go_simp
         with_reducible rfl
        rotate_left
        ·simp only [Act.put, lstS, lstZ, lstC, i64_w, i32_w]
         rfl
        refine pure_ (i := 1) (N := some 47) (v := ?_) (a' := ?_) (bv_ 7 3) rfl rfl (by kernel_rfl) (fun _ _ _ h => h) (Or.inl ⟨by rfl, ?_⟩) ?_ ?_
        rotate_left
        ·intro w'
         go_simp
         with_reducible rfl
        rotate_left
        ·simp only [Act.put, lstS, lstZ, lstC, i64_w, i32_w]
         rfl
        refine pure_ (i := 2) (N := some 48) (v := ?_) (a' := ?_) (bv_ 7 7) rfl rfl (by kernel_rfl) (fun _ _ _ h => h) (Or.inl ⟨by rfl, ?_⟩) ?_ ?_
        rotate_left
        ·intro w'
         go_simp
         with_reducible rfl
        rotate_left
        ·simp only [Act.put, lstS, lstZ, lstC, i64_w, i32_w]
         rfl
        refine pure_ (i := 3) (N := some 49) (v := ?_) (a' := ?_) (bv_ 7 15) rfl rfl (by kernel_rfl) (fun _ _ _ h => h) (Or.inl ⟨by rfl, ?_⟩) ?_ ?_
        rotate_left
        ·intro w'
         go_simp
         with_reducible rfl
        rotate_left
        ·simp only [Act.put, lstS, lstZ, lstC, i64_w, i32_w]
         rfl
        refine take_ (i := 4) (N := some 50) (v := ?_) (a' := ?_) (bv_ 7 31) rfl rfl (by kernel_rfl) (fun _ _ _ h => h) (Or.inl ⟨by rfl, ?_⟩) hHeld ?_ ?_
        rotate_left
        ·rintro w' ⟨s0, s1, s2, s3, s4, s5⟩
         go_simp
         with_reducible rfl
        rotate_left
        ·simp only [Act.put, lstS, lstZ, lstC, i64_w, i32_w]
         rfl
        refine take_ (i := 5) (N := some 51) (v := ?_) (a' := ?_) (bv_ 7 63) rfl rfl (by kernel_rfl) (fun _ _ _ h => h) (Or.inl ⟨by rfl, ?_⟩) hHeld ?_ ?_
        rotate_left
        ·rintro w' ⟨s0, s1, s2, s3, s4, s5⟩
         go_simp
         with_reducible rfl
        rotate_left
        ·simp only [Act.put, lstS, lstZ, lstC, i64_w, i32_w]
         rfl
        refine one_ (i := 6) (N := some 52) (bv_ 7 127) rfl rfl (by kernel_rfl) (by decide) (fun K hK => ?_)
        refine gs_ Try.func135 #[.int .i64 a0, .agg #[.int .i64 ((rd_T150 l2 x14_4).f0.f0), .int .i64 ((rd_T150 l2 x14_4).f0.f1), .int .i64 ((rd_T150 l2 x14_4).f0.f2), .bool ((rd_T150 l2 x14_4).f1)], .agg #[.int .i64 x238000_3, .int .i64 x238001_3]] ?_
        with_reducible refine (spec_l09Has.calls k4 a0 ((rd_T150 l2 x14_4).f0.f0) ((rd_T150 l2 x14_4).f0.f1) ((rd_T150 l2 x14_4).f0.f2) ((rd_T150 l2 x14_4).f1) x238000_3 x238001_3 true _ A27.out).mono ?_
        rintro e w33 ⟨rfl, hb⟩
        refine ⟨_, rfl, ?_⟩
        replace HO_12 := rb_ HO_12 hb
        replace BK237 := bb_ BK237 hb
        replace BK238 := bb_ BK238 hb
        replace HB := bt_ HB hb
        try clear hb
        refine hK.out _ _ ⟨cz_ BK237 0, cz_ BK237 1, (clTr HB.out hw245_0 :), (clTr HB.out hw245_1 :), (clTr HB.out hw245_2 :), (clTr HB.out hw245_3 :)⟩ (fun hHeld => ?_)
        clear hK K
        refine nm_ (some 52) ?_
        refine done_ (by kernel_rfl) ?_
        try go_wp2
        go_roundg k4
        case measure => have := HJ5.out; have := HJ17.out; have := HK3.out; have := HK4.out; omega
        case rel => exact ⟨(wrap64 ((wrap64 (Int.tdiv x14_4 2)) + 1)), (wrap64 (x14_4 + 1)), en_, en_, H', ⟨by have := HJ5.out; have := HJ17.out; have := HK3.out; have := HK4.out; omega⟩, ⟨by (with_reducible repeat (first | apply Kd.R_alloc | apply Kd.R_drewN | apply Kd.R_drew)); exact HO_12.out⟩, bl_ BK237, bl_ BK238, bw_ HB⟩
       have H' := Aside0.mk H
       clear H
       try go_wp2
       replace HO_12 := Aside0.mk (Kd.R_drew HO_12.out)
       replace BK237 := bd_ BK237
       replace BK238 := bd_ BK238
       replace HB := be_ HB
       have p245 : 0 ≤ (x14_4 : Int) := od_
       have q245 : x14_4 < (l2.length : Int) := od_
       obtain ⟨ad245, e245, hx245_0, hx245_1, hx245_2, hx245_3⟩ := at_T150 HR2.out x14_4 p245 q245
       have hw245_3 := hx245_3
       have hw245_2 := hx245_2
       have hw245_1 := hx245_1
       have hw245_0 := hx245_0
       cases e245
       replace hx245_0 := clTr HB.out hx245_0
       replace hx245_1 := clTr HB.out hx245_1
       replace hx245_2 := clTr HB.out hx245_2
       replace hx245_3 := clTr HB.out hx245_3
       replace p245 := eq_true p245
       replace q245 := eq_true q245
       refine start_ (n := 7) (S := fun w' => w'.cell? ⟨gb237, 0, none⟩ = some (.int .i64 x238000_3) ∧ w'.cell? ⟨gb237, 1, none⟩ = some (.int .i64 x238001_3) ∧ w'.cell? (ad245.add ((x14_4).toNat * 4)) = some (.int .i64 ((rd_T150 l2 x14_4).f0.f0)) ∧ w'.cell? ⟨(ad245.add ((x14_4).toNat * 4)).block, (ad245.add ((x14_4).toNat * 4)).off + 1, none⟩ = some (.int .i64 ((rd_T150 l2 x14_4).f0.f1)) ∧ w'.cell? ⟨(ad245.add ((x14_4).toNat * 4)).block, (ad245.add ((x14_4).toNat * 4)).off + 2, none⟩ = some (.int .i64 ((rd_T150 l2 x14_4).f0.f2)) ∧ w'.cell? ⟨(ad245.add ((x14_4).toNat * 4)).block, (ad245.add ((x14_4).toNat * 4)).off + 3, none⟩ = some (.bool ((rd_T150 l2 x14_4).f1))) (ds := []) (bv_ 7 0) (by kernel_rfl) rfl rfl ⟨cz_ BK237 0, cz_ BK237 1, (clTr HB.out hw245_0 :), (clTr HB.out hw245_1 :), (clTr HB.out hw245_2 :), (clTr HB.out hw245_3 :)⟩ (fun hHeld => ?_)
       generalize wr.drew = w34 at HO_12 BK237 BK238 HB hx245_0 hx245_1 hx245_2 hx245_3 hHeld ⊢
       refine pure_ (i := 0) (N := some 46) (v := ?_) (a' := ?_) (bv_ 7 1) rfl rfl (by kernel_rfl) (fun _ _ _ h => h) (Or.inl ⟨by rfl, ?_⟩) ?_ ?_
       rotate_left
       ·intro w'
        go_simp
        with_reducible rfl
       rotate_left
       ·simp only [Act.put, lstS, lstZ, lstC, i64_w, i32_w]
        rfl
       refine pure_ (i := 1) (N := some 47) (v := ?_) (a' := ?_) (bv_ 7 3) rfl rfl (by kernel_rfl) (fun _ _ _ h => h) (Or.inl ⟨by rfl, ?_⟩) ?_ ?_
       rotate_left
       ·intro w'
        go_simp
        with_reducible rfl
       rotate_left
       ·simp only [Act.put, lstS, lstZ, lstC, i64_w, i32_w]
        rfl
       refine pure_ (i := 2) (N := some 48) (v := ?_) (a' := ?_) (bv_ 7 7) rfl rfl (by kernel_rfl) (fun _ _ _ h => h) (Or.inl ⟨by rfl, ?_⟩) ?_ ?_
       rotate_left
       ·intro w'
        go_simp
        with_reducible rfl
       rotate_left
       ·simp only [Act.put, lstS, lstZ, lstC, i64_w, i32_w]
        rfl
       refine pure_ (i := 3) (N := some 49) (v := ?_) (a' := ?_) (bv_ 7 15) rfl rfl (by kernel_rfl) (fun _ _ _ h => h) (Or.inl ⟨by rfl, ?_⟩) ?_ ?_
       rotate_left
       ·intro w'
        go_simp
        with_reducible rfl
       rotate_left
       ·simp only [Act.put, lstS, lstZ, lstC, i64_w, i32_w]
        rfl
       refine take_ (i := 4) (N := some 50) (v := ?_) (a' := ?_) (bv_ 7 31) rfl rfl (by kernel_rfl) (fun _ _ _ h => h) (Or.inl ⟨by rfl, ?_⟩) hHeld ?_ ?_
       rotate_left
       ·rintro w' ⟨s0, s1, s2, s3, s4, s5⟩
        go_simp
        with_reducible rfl
       rotate_left
       ·simp only [Act.put, lstS, lstZ, lstC, i64_w, i32_w]
        rfl
       refine take_ (i := 5) (N := some 51) (v := ?_) (a' := ?_) (bv_ 7 63) rfl rfl (by kernel_rfl) (fun _ _ _ h => h) (Or.inl ⟨by rfl, ?_⟩) hHeld ?_ ?_
       rotate_left
       ·rintro w' ⟨s0, s1, s2, s3, s4, s5⟩
        go_simp
        with_reducible rfl
       rotate_left
       ·simp only [Act.put, lstS, lstZ, lstC, i64_w, i32_w]
        rfl
       refine one_ (i := 6) (N := some 52) (bv_ 7 127) rfl rfl (by kernel_rfl) (by decide) (fun K hK => ?_)
       refine gs_ Try.func135 #[.int .i64 a0, .agg #[.int .i64 ((rd_T150 l2 x14_4).f0.f0), .int .i64 ((rd_T150 l2 x14_4).f0.f1), .int .i64 ((rd_T150 l2 x14_4).f0.f2), .bool ((rd_T150 l2 x14_4).f1)], .agg #[.int .i64 x238000_3, .int .i64 x238001_3]] ?_
       with_reducible refine (spec_l09Has.calls k4 a0 ((rd_T150 l2 x14_4).f0.f0) ((rd_T150 l2 x14_4).f0.f1) ((rd_T150 l2 x14_4).f0.f2) ((rd_T150 l2 x14_4).f1) x238000_3 x238001_3 false _ A27.out).mono ?_
       rintro e w35 ⟨rfl, hb⟩
       refine ⟨_, rfl, ?_⟩
       replace HO_12 := rb_ HO_12 hb
       replace BK237 := bb_ BK237 hb
       replace BK238 := bb_ BK238 hb
       replace HB := bt_ HB hb
       try clear hb
       refine hK.out _ _ ⟨cz_ BK237 0, cz_ BK237 1, (clTr HB.out hw245_0 :), (clTr HB.out hw245_1 :), (clTr HB.out hw245_2 :), (clTr HB.out hw245_3 :)⟩ (fun hHeld => ?_)
       clear hK K
       refine nm_ (some 52) ?_
       refine done_ (by kernel_rfl) ?_
       try go_wp2
       go_roundg k4
       case measure => have := HJ5.out; have := HJ17.out; have := HK3.out; have := HK4.out; omega
       case rel => exact ⟨(x13_4), (wrap64 (x14_4 + 1)), en_, en_, H', ⟨by have := HJ5.out; have := HJ17.out; have := HK3.out; have := HK4.out; omega⟩, ⟨by (with_reducible repeat (first | apply Kd.R_alloc | apply Kd.R_drewN | apply Kd.R_drew)); exact HO_12.out⟩, bl_ BK237, bl_ BK238, bw_ HB⟩
      replace H := ie_ H
      rcases H with ⟨c36b0, c36b1, H⟩ | ⟨c36, c36b0, c36b1, H⟩
      ·simp only [Option.some.injEq, Prod.mk.injEq] at H
       obtain ⟨rfl, rfl, rfl, rfl⟩ := H
       try go_wp2
       replace HO_12 := Aside0.mk (Kd.R_drew HO_12.out)
       replace BK237 := bd_ BK237
       replace BK238 := bd_ BK238
       replace HB := be_ HB
       refine start_ (n := 5) (S := fun w' => w'.cell? ⟨gb237, 0, none⟩ = some (.int .i64 x238000_3) ∧ w'.cell? ⟨gb237, 1, none⟩ = some (.int .i64 x238001_3)) (ds := []) (bv_ 5 0) (by kernel_rfl) rfl rfl ⟨cz_ BK237 0, cz_ BK237 1⟩ (fun hHeld => ?_)
       generalize wr.drew = w37 at HO_12 BK237 BK238 HB hHeld ⊢
       refine pure_ (i := 0) (N := some 64) (v := ?_) (a' := ?_) (bv_ 5 1) rfl rfl (by kernel_rfl) (fun _ _ _ h => h) (Or.inl ⟨by rfl, ?_⟩) ?_ ?_
       rotate_left
       ·intro w'
        go_simp
        with_reducible rfl
       rotate_left
       ·simp only [Act.put, lstS, lstZ, lstC, i64_w, i32_w]
        rfl
       refine pure_ (i := 2) (N := some 8) (v := ?_) (a' := ?_) (bv_ 5 5) rfl rfl (by kernel_rfl) (fun _ _ _ h => h) (Or.inl ⟨by rfl, ?_⟩) ?_ ?_
       rotate_left
       ·intro w'
        go_simp
        with_reducible rfl
       rotate_left
       ·simp only [Act.put, lstS, lstZ, lstC, i64_w, i32_w]
        rfl
       refine take_ (i := 1) (N := some 65) (v := ?_) (a' := ?_) (bv_ 5 7) rfl rfl (by kernel_rfl) (fun _ _ _ h => h) (Or.inl ⟨by rfl, ?_⟩) hHeld ?_ ?_
       rotate_left
       ·rintro w' ⟨s0, s1⟩
        go_simp
        with_reducible rfl
       rotate_left
       ·simp only [Act.put, lstS, lstZ, lstC, i64_w, i32_w]
        rfl
       refine one_ (i := 3) (N := none) (bv_ 5 15) rfl rfl (by kernel_rfl) (by decide) (fun K hK => ?_)
       have hs38 : w37.cell? ⟨gb238, 0, none⟩ = some (.int .i64 x239000_3) := (blk_cell BK238.out 0).trans rfl
       have hfs38 := blk_frozen BK238.out 0
       have hns38_0 := NB237_238.out
       have hms38_0 := NB238_237.out
       have hs39 : w37.cell? ⟨gb238, 1, none⟩ = some (.int .i64 x239001_3) := (blk_cell BK238.out 1).trans rfl
       have hfs39 := blk_frozen BK238.out 1
       have hns39_0 := NB237_238.out
       have hms39_0 := NB238_237.out
       refine skip_ (w1 := ?_) (by rfl) rfl ?_ ?_
       rotate_left
       ·go_simp
        rfl
       refine hK.out _ _ ⟨(cg_ NB237_238 ((cg_ NB237_238 (hHeld.1)))), (cg_ NB237_238 ((cg_ NB237_238 (hHeld.2))))⟩ (fun hHeld => ?_)
       clear hK K
       refine pure_ (i := 4) (N := some 10) (v := ?_) (a' := ?_) (bv_ 5 31) rfl rfl (by kernel_rfl) (fun _ _ _ h => h) (Or.inl ⟨by rfl, ?_⟩) ?_ ?_
       rotate_left
       ·intro w'
        go_simp
        with_reducible rfl
       rotate_left
       ·simp only [Act.put, lstS, lstZ, lstC, i64_w, i32_w]
        rfl
       refine done_ (by kernel_rfl) ?_
       try go_wp2
       refine bodyPost_ret (results_list (rs := [.tmp 8, .cell 9 74, .tmp 10]) rfl (by simp) (.tmp (.cell gb238 74 #[.int .i64 x238000_3, .int .i64 x238001_3] (0, 0) _ rfl (bp_ BK238).out Try.underlying74 rfl (by kernel_rfl) (.tmp .nil)))) rfl ?_
       exact ⟨_, es_, by (with_reducible repeat (first | apply Kd.R_alloc | apply Kd.R_drewN | apply Kd.R_drew)); exact Kd.R_mono (Kd.R_far (p := ⟨gb238, 1, none⟩) (Kd.R_far (p := ⟨gb238, 0, none⟩) (Kd.R_types HO_12.out BK238.out (by decide)) (fun _ hk => hk.2) (.int .i64 x238000_3)) (fun _ hk => hk.2) (.int .i64 x238001_3)) (fun _ hk => trivial), (bw_ HB).out⟩
      replace H := ie_ H
      rcases H with ⟨c40b0, c40b1, H⟩ | ⟨c40, c40b0, c40b1, H⟩
      ·simp only [Option.some.injEq, Prod.mk.injEq] at H
       obtain ⟨rfl, rfl, rfl, rfl⟩ := H
       obtain ⟨Ao41, co41, eo41⟩ := Kd.R_slice HO_12.out
       subst eo41
       have hnb42 := NB238_237.out
       have hnc42 := NB237_238.out
       obtain ⟨hcz43_0, hcz43_1, hfz43_0, hfz43_1⟩ := ch2_ BK238
       go_wp2
       refine bodyPost_ret (results_list (rs := [.tmp 8, .cell 9 74, .tmp 10]) rfl (by simp) (.tmp (.cell gb238 74 #[.int .i64 0, .int .i64 0] (0, 0) _ rfl (bp_ BK238).out Try.underlying74 rfl (by kernel_rfl) (.tmp .nil)))) rfl ?_
       exact ⟨_, es_, by first | exact Kd.R_nil _ _ _ _ _ | exact Kd.N_nil _ _ _ _ _ | exact Kd.V_nil _ _ _ _ _ | exact Kd.Q_nil _ _ _ _ _ | exact Kd.S_nil _ _ _ _ _, (bw_ HB).out⟩
      replace H := oc_ H
      obtain ⟨⟨t247, t248, t249, t250⟩, A44, H⟩ := H
      replace H := oc_ H
      obtain ⟨⟨t251, t252, t253⟩, A45, H⟩ := H
      replace H := ib_ H
      rcases H with ⟨rfl, H⟩ | ⟨rfl, H⟩
      ·by_cases c47 : x12_3.length < 17592186044416
       ·rw [if_pos c47] at H
        have LMc47 := Aside0.mk c47
        clear c47
        obtain ⟨y255, hy255⟩ : ∃ y_ : List Int, y_ = (x12_3 ++ [x13_4]) := ⟨_, rfl⟩
        replace H : (spec_BringOut.l0 k4 a0 l1 l2 y255 t251 t252) = some (r1, r2, r3, r4) := by first | (rw [hy255]; with_reducible exact H) | (have H2_ := (Option.bind_some _ _).symm.trans H; rw [hy255]; with_reducible exact H2_) | (have H2_ := (Option.bind_some _ _).symm.trans H; with_reducible exact H2_) | with_reducible exact H | (rw [hy255]; exact H) | exact H
        have Ny255 := Aside0.mk hy255
        clear hy255
        have H' := Aside0.mk H
        clear H
        obtain ⟨Ao48, co48, eo48⟩ := Kd.R_slice HO_12.out
        subst eo48
        try go_wp2
        replace HO_12 := Aside0.mk (Kd.R_drew HO_12.out)
        replace BK237 := bd_ BK237
        replace BK238 := bd_ BK238
        replace HB := be_ HB
        refine start_ (n := 12) (S := fun w' => w'.cell? ⟨gb237, 0, none⟩ = some (.int .i64 x238000_3) ∧ w'.cell? ⟨gb237, 1, none⟩ = some (.int .i64 x238001_3)) (ds := []) (bv_ 12 0) (by kernel_rfl) rfl rfl ⟨cz_ BK237 0, cz_ BK237 1⟩ (fun hHeld => ?_); refine with_tabW spec_BringOut.tab21 spec_BringOut.bits21 (fun HT_ HW_ => ?_)
        generalize wr.drew = w49 at HO_12 BK237 BK238 HB hHeld ⊢
        refine px_ HT_ 0 72 1 ?_
        refine px_ HT_ 1 73 3 ?_
        refine px_ HT_ 2 74 7 ?_
        refine ta_ HT_ HW_ 4 (some 76) (bv_ 12 23) hHeld ?_ (hy := by rintro w' ⟨s0, s1⟩; go_simp; with_reducible rfl)
        refine join_ (σ := Nat) 2 (bv_ 12 1023) (fun s_ => [(75, .agg #[.int .i64 t247, .int .i64 t248, .int .i64 t249, .int .i64 t250]), (77, .tuple #[.agg #[.int .i64 t251, .int .i64 t252], .bool true]), (15, .pointer (some ⟨s_, 0, none⟩)), (71, .tuple #[.agg #[.int .i64 t251, .int .i64 t252], .bool true]), (78, .agg #[.int .i64 t251, .int .i64 t252]), (79, .bool true)]) (fun s_ w' => (w'.cell? ⟨gb237, 0, none⟩ = some (.int .i64 x238000_3) ∧ w'.cell? ⟨gb237, 1, none⟩ = some (.int .i64 x238001_3)) ∧ (Kd.R (Kd.int .i64) 2 w' w.heap.size (fun _ => True) (.slice Ao48 x12_3.length co48) x12_3) ∧ (w'.heap[gb237]? = some (.cells #[.int .i64 x238000_3, .int .i64 x238001_3] 74 (0, 0))) ∧ (w'.heap[gb238]? = some (.cells #[.int .i64 x239000_3, .int .i64 x239001_3] 74 (0, 0))) ∧ (w'.heap[s_]? = some (.cells #[.int .i64 0, .int .i64 0] 74 (0, 0))) ∧ (w.heap.size ≤ s_) ∧ (w.heap.size ≤ s_) ∧ (gb237 ≠ s_) ∧ (s_ ≠ gb237) ∧ (gb238 ≠ s_) ∧ (s_ ≠ gb238) ∧ (Below w.heap.size w w')) ?_ ?_
        rotate_left
        ·intro hCont
         refine tw_ HT_ 3 9 (some 75) (some 15) (bv_ 12 31) (bv_ 12 535) (fun K hK => ?_) (fun K hK => ?_)
         ·skip
          refine gs_ Try.func137 #[.slice A1 l1.length c1, .int .i64 (wrap64 (-x13_4))] ?_
          with_reducible refine (spec_l09Letter.calls k4 _ _ l1 (wrap64 (-x13_4)) t247 t248 t249 t250 _ ?side1 ?side2 A44.out).mono ?_
          (case side1 => exact ca_ (Kd.C_below HR1.out HB.out))
          (case side2 => exact HC1.out)
          rintro e w50 ⟨rfl, hb⟩
          refine ⟨_, rfl, ?_⟩
          replace HO_12 := rb_ HO_12 hb
          replace BK237 := bb_ BK237 hb
          replace BK238 := bb_ BK238 hb
          replace HB := bt_ HB hb
          try clear hb
          refine hK.out _ _ ⟨cz_ BK237 0, cz_ BK237 1⟩ (fun hHeld => ?_)
          clear hK K
          refine nm_ (some 75) ?_
          refine tw_ HT_ 5 9 (some 77) (some 15) (bv_ 12 63) (bv_ 12 543) (fun K hK => ?_) (fun K hK => ?_)
          ·skip
           refine gs_ Try.func136 #[.agg #[.int .i64 t247, .int .i64 t248, .int .i64 t249, .int .i64 t250], .agg #[.int .i64 x238000_3, .int .i64 x238001_3]] ?_
           with_reducible refine (spec_l04End.calls k4 t247 t248 t249 t250 x238000_3 x238001_3 t251 t252 true _ A45.out).mono ?_
           rintro e w51 ⟨rfl, hb⟩
           refine ⟨_, rfl, ?_⟩
           replace HO_12 := rb_ HO_12 hb
           replace BK237 := bb_ BK237 hb
           replace BK238 := bb_ BK238 hb
           replace HB := bt_ HB hb
           try clear hb
           refine hK.out _ _ ⟨cz_ BK237 0, cz_ BK237 1⟩ (fun hHeld => ?_)
           clear hK K
           refine nm_ (some 77) ?_
           refine px_ HT_ 6 71 127 ?_
           refine px_ HT_ 7 78 255 ?_
           refine px_ HT_ 8 79 511 ?_
           refine on_ HT_ 9 (some 15) (bv_ 12 1023) (fun K hK => ?_)
           refine bz_ 15 #[.int .i64 0, .int .i64 0] 74 ?_
           intro gb254 hg w52 BK254 hb
           have GW254 := bs_ HB hg
           have NB237_254 := bm_ BK237 hg
           have NB254_237 := bn_ BK237 hg
           have NB238_254 := bm_ BK238 hg
           have NB254_238 := bn_ BK238 hg
           replace HO_12 := rb_ HO_12 hb
           replace BK237 := bb_ BK237 hb
           replace BK238 := bb_ BK238 hb
           replace HB := bt_ HB hb
           clear hb hg
           refine hK.out _ _ ⟨cz_ BK237 0, cz_ BK237 1⟩ (fun hHeld => ?_)
           clear hK K
           refine nm_ (some 15) ?_
           exact norm_ (by simp only [putAll, Act.put, lstS, lstZ, lstC]) (hCont (gb254) _ ⟨hHeld, (ra_ HO_12.out), (bl_ BK237).out, (bl_ BK238).out, (bl_ BK254).out, GW254.out, GW254.out, NB237_254.out, NB254_237.out, NB238_254.out, NB254_238.out, (bw_ HB).out⟩)
          skip
          refine bz_ 15 #[.int .i64 0, .int .i64 0] 74 ?_
          intro gb254 hg w51 BK254 hb
          have GW254 := bs_ HB hg
          have NB237_254 := bm_ BK237 hg
          have NB254_237 := bn_ BK237 hg
          have NB238_254 := bm_ BK238 hg
          have NB254_238 := bn_ BK238 hg
          replace HO_12 := rb_ HO_12 hb
          replace BK237 := bb_ BK237 hb
          replace BK238 := bb_ BK238 hb
          replace HB := bt_ HB hb
          clear hb hg
          refine hK.out _ _ ⟨cz_ BK237 0, cz_ BK237 1⟩ (fun hHeld => ?_)
          clear hK K
          refine nm_ (some 15) ?_
          refine on_ HT_ 5 (some 77) (bv_ 12 575) (fun K hK => ?_)
          refine gs_ Try.func136 #[.agg #[.int .i64 t247, .int .i64 t248, .int .i64 t249, .int .i64 t250], .agg #[.int .i64 x238000_3, .int .i64 x238001_3]] ?_
          with_reducible refine (spec_l04End.calls k4 t247 t248 t249 t250 x238000_3 x238001_3 t251 t252 true _ A45.out).mono ?_
          rintro e w52 ⟨rfl, hb⟩
          refine ⟨_, rfl, ?_⟩
          replace HO_12 := rb_ HO_12 hb
          replace BK237 := bb_ BK237 hb
          replace BK238 := bb_ BK238 hb
          replace BK254 := bb_ BK254 hb
          replace HB := bt_ HB hb
          try clear hb
          refine hK.out _ _ ⟨cz_ BK237 0, cz_ BK237 1⟩ (fun hHeld => ?_)
          clear hK K
          refine nm_ (some 77) ?_
          refine px_ HT_ 6 71 639 ?_
          refine px_ HT_ 7 78 767 ?_
          refine px_ HT_ 8 79 1023 ?_
          exact norm_ (by simp only [putAll, Act.put, lstS, lstZ, lstC]) (hCont (gb254) _ ⟨hHeld, (ra_ HO_12.out), (bl_ BK237).out, (bl_ BK238).out, (bl_ BK254).out, GW254.out, GW254.out, NB237_254.out, NB254_237.out, NB238_254.out, NB254_238.out, (bw_ HB).out⟩)
         skip
         refine bz_ 15 #[.int .i64 0, .int .i64 0] 74 ?_
         intro gb254 hg w50 BK254 hb
         have GW254 := bs_ HB hg
         have NB237_254 := bm_ BK237 hg
         have NB254_237 := bn_ BK237 hg
         have NB238_254 := bm_ BK238 hg
         have NB254_238 := bn_ BK238 hg
         replace HO_12 := rb_ HO_12 hb
         replace BK237 := bb_ BK237 hb
         replace BK238 := bb_ BK238 hb
         replace HB := bt_ HB hb
         clear hb hg
         refine hK.out _ _ ⟨cz_ BK237 0, cz_ BK237 1⟩ (fun hHeld => ?_)
         clear hK K
         refine nm_ (some 15) ?_
         refine on_ HT_ 3 (some 75) (bv_ 12 543) (fun K hK => ?_)
         refine gs_ Try.func137 #[.slice A1 l1.length c1, .int .i64 (wrap64 (-x13_4))] ?_
         with_reducible refine (spec_l09Letter.calls k4 _ _ l1 (wrap64 (-x13_4)) t247 t248 t249 t250 _ ?side1 ?side2 A44.out).mono ?_
         (case side1 => exact ca_ (Kd.C_below HR1.out HB.out))
         (case side2 => exact HC1.out)
         rintro e w51 ⟨rfl, hb⟩
         refine ⟨_, rfl, ?_⟩
         replace HO_12 := rb_ HO_12 hb
         replace BK237 := bb_ BK237 hb
         replace BK238 := bb_ BK238 hb
         replace BK254 := bb_ BK254 hb
         replace HB := bt_ HB hb
         try clear hb
         refine hK.out _ _ ⟨cz_ BK237 0, cz_ BK237 1⟩ (fun hHeld => ?_)
         clear hK K
         refine nm_ (some 75) ?_
         refine on_ HT_ 5 (some 77) (bv_ 12 575) (fun K hK => ?_)
         refine gs_ Try.func136 #[.agg #[.int .i64 t247, .int .i64 t248, .int .i64 t249, .int .i64 t250], .agg #[.int .i64 x238000_3, .int .i64 x238001_3]] ?_
         with_reducible refine (spec_l04End.calls k4 t247 t248 t249 t250 x238000_3 x238001_3 t251 t252 true _ A45.out).mono ?_
         rintro e w52 ⟨rfl, hb⟩
         refine ⟨_, rfl, ?_⟩
         replace HO_12 := rb_ HO_12 hb
         replace BK237 := bb_ BK237 hb
         replace BK238 := bb_ BK238 hb
         replace BK254 := bb_ BK254 hb
         replace HB := bt_ HB hb
         try clear hb
         refine hK.out _ _ ⟨cz_ BK237 0, cz_ BK237 1⟩ (fun hHeld => ?_)
         clear hK K
         refine nm_ (some 77) ?_
         refine px_ HT_ 6 71 639 ?_
         refine px_ HT_ 7 78 767 ?_
         refine px_ HT_ 8 79 1023 ?_
         exact norm_ (by simp only [putAll, Act.put, lstS, lstZ, lstC]) (hCont (gb254) _ ⟨hHeld, (ra_ HO_12.out), (bl_ BK237).out, (bl_ BK238).out, (bl_ BK254).out, GW254.out, GW254.out, NB237_254.out, NB254_237.out, NB238_254.out, NB254_238.out, (bw_ HB).out⟩)
        rintro gb254 w53 ⟨hS_, h0_, h1_, h2_, h3_, h4_, h5_, h6_, h7_, h8_, h9_, h10_⟩
        clear HO_12 BK237 BK238 HB
        have HO_12 := Aside0.mk h0_
        have BK237 := Aside0.mk h1_
        have BK238 := Aside0.mk h2_
        have BK254 := Aside0.mk h3_
        have GW254 := Aside0.mk h4_
        have GW254 := Aside0.mk h5_
        have NB237_254 := Aside0.mk h6_
        have NB254_237 := Aside0.mk h7_
        have NB238_254 := Aside0.mk h8_
        have NB254_238 := Aside0.mk h9_
        have HB := Aside0.mk h10_
        clear h0_ h1_ h2_ h3_ h4_ h5_ h6_ h7_ h8_ h9_ h10_
        have hHeld : w53.cell? ⟨gb237, 0, none⟩ = some (.int .i64 x238000_3) ∧ w53.cell? ⟨gb237, 1, none⟩ = some (.int .i64 x238001_3) := hS_
        refine norm_ (a' := ?_) ?_ ?_
        rotate_left
        ·simp only [putAll, Act.put, lstS, lstZ, lstC]
         rfl
        refine on_ HT_ 10 none (bv_ 12 2047) (fun K hK => ?_)
        have hs54 : w53.cell? ⟨gb254, 0, none⟩ = some (.int .i64 0) := (blk_cell BK254.out 0).trans rfl
        have hfs54 := blk_frozen BK254.out 0
        have hns54_0 := NB237_254.out
        have hns54_1 := NB238_254.out
        have hms54_0 := NB254_237.out
        have hms54_1 := NB254_238.out
        have hs55 : w53.cell? ⟨gb254, 1, none⟩ = some (.int .i64 0) := (blk_cell BK254.out 1).trans rfl
        have hfs55 := blk_frozen BK254.out 1
        have hns55_0 := NB237_254.out
        have hns55_1 := NB238_254.out
        have hms55_0 := NB254_237.out
        have hms55_1 := NB254_238.out
        refine skip_ (w1 := ?_) (by rfl) rfl ?_ ?_
        rotate_left
        ·go_simp
         rfl
        refine hK.out _ _ ⟨(cg_ NB237_254 ((cg_ NB237_254 (hHeld.1)))), (cg_ NB237_254 ((cg_ NB237_254 (hHeld.2))))⟩ (fun hHeld => ?_)
        clear hK K
        refine px_ HT_ 11 16 4095 ?_
        refine done_ (done_of HT_.out (by kernel_rfl)) ?_
        try go_wp2_with (first | ((with_reducible refine gate_builtin (b := .append) (xs := #[.tmp 83, .tmp 85]) rfl ?_); at_builtin; refine Kd.R_append (Kd.int .i64) (w0 := w) w.heap.size rfl (.tmp 83) (.tmp 85) 41 2 (.int .i64 0) 8 rfl Try.underlying41 info2 rfl (by decide) (by omega) (.slice Ao48 x12_3.length co48) x12_3 x13_4 [.int .i64 x13_4] (fun _ => True) (fun _ => False) rfl (by first | (go_simp; done) | (go_simp; rfl)) ?aP (fun _ hk => hk.elim) ?aF ?aO ?aB ?aS ?aL ?_; (case aP => exact rfl); (case aB => exact (bw_ HB).out); (case aF => exact (fun _ _ => trivial)); (case aO => exact (by (with_reducible repeat (first | apply Kd.R_alloc | apply Kd.R_drewN | apply Kd.R_drew)); exact Kd.R_mono (Kd.R_far (p := ⟨gb254, 1, none⟩) (Kd.R_far (p := ⟨gb254, 0, none⟩) (Kd.R_types HO_12.out BK254.out (by decide)) (fun _ hk => hk.2) (.int .i64 t251)) (fun _ hk => hk.2) (.int .i64 t252)) (fun _ hk => trivial))); (case aS => exact (below_size (bw_ HB).out)); (case aL => have := LMc47.out; omega); intro v256 w56 ho hb hg hat; rw [← Ny255.out] at ho; have n0_ := Aside0.mk (blk_grown (g := gb237) (o := .cells #[.int .i64 x238000_3, .int .i64 x238001_3] 74 (0, 0)) (fl_ BK237 NB237_254).out hg (Kd.R_ne HO_12.out BK237.out (by decide))); have n1_ := Aside0.mk (blk_grown (g := gb238) (o := .cells #[.int .i64 x239000_3, .int .i64 x239001_3] 74 (0, 0)) (fl_ BK238 NB238_254).out hg (Kd.R_ne HO_12.out BK238.out (by decide))); have n2_ := Aside0.mk (blk_grown (g := gb254) (o := .cells #[.int .i64 t251, .int .i64 t252] 74 (0, 0)) (bp_ BK254).out hg (Kd.R_ne HO_12.out BK254.out (by decide))); have n3_ := Aside0.mk (hb); have n4_ := Aside0.mk (ho); clear BK237; clear BK238; clear BK254; clear HB; clear HO_12; have BK237 := n0_; have BK238 := n1_; have BK254 := n2_; have HB := n3_; have HO257 := n4_; clear n0_ n1_ n2_ n3_ n4_; clear ho hb hg hat; have hnb57 := NB254_237.out; have hnc57 := NB237_254.out; have hnb58 := NB254_238.out; have hnc58 := NB238_254.out; obtain ⟨hcz59_0, hcz59_1, hfz59_0, hfz59_1⟩ := ch2_ BK254; have hnb60 := NB237_238.out; have hnc60 := NB238_237.out; obtain ⟨hcz61_0, hcz61_1, hfz61_0, hfz61_1⟩ := ch2_ BK237))
        go_roundg k4
        case measure => have := HJ5.out; have := HJ17.out; have := HK3.out; have := HK4.out; omega
        case rel => exact ⟨(y255), (t251), (t252), (x239000_3), (x239001_3), H', ⟨by have := HJ5.out; have := HJ17.out; have := HK3.out; have := HK4.out; omega⟩, ⟨by (with_reducible repeat (first | apply Kd.R_alloc | apply Kd.R_drewN | apply Kd.R_drew)); exact Kd.R_mono (Kd.R_far (p := ⟨gb237, 1, none⟩) (Kd.R_far (p := ⟨gb237, 0, none⟩) (Kd.R_types HO257.out BK237.out (by decide)) (fun _ hk => hk.2) (.int .i64 t251)) (fun _ hk => hk.2) (.int .i64 t252)) (fun _ hk => trivial)⟩, bp_ BK237, fl_ BK238 NB238_237, bw_ HB⟩
       rw [if_neg c47] at H
       exact absurd H (by simp)
      simp only [Option.some.injEq, Prod.mk.injEq] at H
      obtain ⟨rfl, rfl, rfl, rfl⟩ := H
      obtain ⟨Ao62, co62, eo62⟩ := Kd.R_slice HO_12.out
      subst eo62
      try go_wp2
      replace HO_12 := Aside0.mk (Kd.R_drew HO_12.out)
      replace BK237 := bd_ BK237
      replace BK238 := bd_ BK238
      replace HB := be_ HB
      refine start_ (n := 12) (S := fun w' => w'.cell? ⟨gb237, 0, none⟩ = some (.int .i64 x238000_3) ∧ w'.cell? ⟨gb237, 1, none⟩ = some (.int .i64 x238001_3)) (ds := []) (bv_ 12 0) (by kernel_rfl) rfl rfl ⟨cz_ BK237 0, cz_ BK237 1⟩ (fun hHeld => ?_); refine with_tabW spec_BringOut.tab21 spec_BringOut.bits21 (fun HT_ HW_ => ?_)
      generalize wr.drew = w63 at HO_12 BK237 BK238 HB hHeld ⊢
      refine px_ HT_ 0 72 1 ?_
      refine px_ HT_ 1 73 3 ?_
      refine px_ HT_ 2 74 7 ?_
      refine ta_ HT_ HW_ 4 (some 76) (bv_ 12 23) hHeld ?_ (hy := by rintro w' ⟨s0, s1⟩; go_simp; with_reducible rfl)
      refine join_ (σ := Nat) 2 (bv_ 12 1023) (fun s_ => [(75, .agg #[.int .i64 t247, .int .i64 t248, .int .i64 t249, .int .i64 t250]), (77, .tuple #[.agg #[.int .i64 t251, .int .i64 t252], .bool false]), (15, .pointer (some ⟨s_, 0, none⟩)), (71, .tuple #[.agg #[.int .i64 t251, .int .i64 t252], .bool false]), (78, .agg #[.int .i64 t251, .int .i64 t252]), (79, .bool false)]) (fun s_ w' => (w'.cell? ⟨gb237, 0, none⟩ = some (.int .i64 x238000_3) ∧ w'.cell? ⟨gb237, 1, none⟩ = some (.int .i64 x238001_3)) ∧ (Kd.R (Kd.int .i64) 2 w' w.heap.size (fun _ => True) (.slice Ao62 x12_3.length co62) x12_3) ∧ (w'.heap[gb237]? = some (.cells #[.int .i64 x238000_3, .int .i64 x238001_3] 74 (0, 0))) ∧ (w'.heap[gb238]? = some (.cells #[.int .i64 x239000_3, .int .i64 x239001_3] 74 (0, 0))) ∧ (w'.heap[s_]? = some (.cells #[.int .i64 0, .int .i64 0] 74 (0, 0))) ∧ (w.heap.size ≤ s_) ∧ (w.heap.size ≤ s_) ∧ (gb237 ≠ s_) ∧ (s_ ≠ gb237) ∧ (gb238 ≠ s_) ∧ (s_ ≠ gb238) ∧ (Below w.heap.size w w')) ?_ ?_
      rotate_left
      ·intro hCont
       refine tw_ HT_ 3 9 (some 75) (some 15) (bv_ 12 31) (bv_ 12 535) (fun K hK => ?_) (fun K hK => ?_)
       ·skip
        refine gs_ Try.func137 #[.slice A1 l1.length c1, .int .i64 (wrap64 (-x13_4))] ?_
        with_reducible refine (spec_l09Letter.calls k4 _ _ l1 (wrap64 (-x13_4)) t247 t248 t249 t250 _ ?side1 ?side2 A44.out).mono ?_
        (case side1 => exact ca_ (Kd.C_below HR1.out HB.out))
        (case side2 => exact HC1.out)
        rintro e w64 ⟨rfl, hb⟩
        refine ⟨_, rfl, ?_⟩
        replace HO_12 := rb_ HO_12 hb
        replace BK237 := bb_ BK237 hb
        replace BK238 := bb_ BK238 hb
        replace HB := bt_ HB hb
        try clear hb
        refine hK.out _ _ ⟨cz_ BK237 0, cz_ BK237 1⟩ (fun hHeld => ?_)
        clear hK K
        refine nm_ (some 75) ?_
        refine tw_ HT_ 5 9 (some 77) (some 15) (bv_ 12 63) (bv_ 12 543) (fun K hK => ?_) (fun K hK => ?_)
        ·skip
         refine gs_ Try.func136 #[.agg #[.int .i64 t247, .int .i64 t248, .int .i64 t249, .int .i64 t250], .agg #[.int .i64 x238000_3, .int .i64 x238001_3]] ?_
         with_reducible refine (spec_l04End.calls k4 t247 t248 t249 t250 x238000_3 x238001_3 t251 t252 false _ A45.out).mono ?_
         rintro e w65 ⟨rfl, hb⟩
         refine ⟨_, rfl, ?_⟩
         replace HO_12 := rb_ HO_12 hb
         replace BK237 := bb_ BK237 hb
         replace BK238 := bb_ BK238 hb
         replace HB := bt_ HB hb
         try clear hb
         refine hK.out _ _ ⟨cz_ BK237 0, cz_ BK237 1⟩ (fun hHeld => ?_)
         clear hK K
         refine nm_ (some 77) ?_
         refine px_ HT_ 6 71 127 ?_
         refine px_ HT_ 7 78 255 ?_
         refine px_ HT_ 8 79 511 ?_
         refine on_ HT_ 9 (some 15) (bv_ 12 1023) (fun K hK => ?_)
         refine bz_ 15 #[.int .i64 0, .int .i64 0] 74 ?_
         intro gb254 hg w66 BK254 hb
         have GW254 := bs_ HB hg
         have NB237_254 := bm_ BK237 hg
         have NB254_237 := bn_ BK237 hg
         have NB238_254 := bm_ BK238 hg
         have NB254_238 := bn_ BK238 hg
         replace HO_12 := rb_ HO_12 hb
         replace BK237 := bb_ BK237 hb
         replace BK238 := bb_ BK238 hb
         replace HB := bt_ HB hb
         clear hb hg
         refine hK.out _ _ ⟨cz_ BK237 0, cz_ BK237 1⟩ (fun hHeld => ?_)
         clear hK K
         refine nm_ (some 15) ?_
         exact norm_ (by simp only [putAll, Act.put, lstS, lstZ, lstC]) (hCont (gb254) _ ⟨hHeld, (ra_ HO_12.out), (bl_ BK237).out, (bl_ BK238).out, (bl_ BK254).out, GW254.out, GW254.out, NB237_254.out, NB254_237.out, NB238_254.out, NB254_238.out, (bw_ HB).out⟩)
        skip
        refine bz_ 15 #[.int .i64 0, .int .i64 0] 74 ?_
        intro gb254 hg w65 BK254 hb
        have GW254 := bs_ HB hg
        have NB237_254 := bm_ BK237 hg
        have NB254_237 := bn_ BK237 hg
        have NB238_254 := bm_ BK238 hg
        have NB254_238 := bn_ BK238 hg
        replace HO_12 := rb_ HO_12 hb
        replace BK237 := bb_ BK237 hb
        replace BK238 := bb_ BK238 hb
        replace HB := bt_ HB hb
        clear hb hg
        refine hK.out _ _ ⟨cz_ BK237 0, cz_ BK237 1⟩ (fun hHeld => ?_)
        clear hK K
        refine nm_ (some 15) ?_
        refine on_ HT_ 5 (some 77) (bv_ 12 575) (fun K hK => ?_)
        refine gs_ Try.func136 #[.agg #[.int .i64 t247, .int .i64 t248, .int .i64 t249, .int .i64 t250], .agg #[.int .i64 x238000_3, .int .i64 x238001_3]] ?_
        with_reducible refine (spec_l04End.calls k4 t247 t248 t249 t250 x238000_3 x238001_3 t251 t252 false _ A45.out).mono ?_
        rintro e w66 ⟨rfl, hb⟩
        refine ⟨_, rfl, ?_⟩
        replace HO_12 := rb_ HO_12 hb
        replace BK237 := bb_ BK237 hb
        replace BK238 := bb_ BK238 hb
        replace BK254 := bb_ BK254 hb
        replace HB := bt_ HB hb
        try clear hb
        refine hK.out _ _ ⟨cz_ BK237 0, cz_ BK237 1⟩ (fun hHeld => ?_)
        clear hK K
        refine nm_ (some 77) ?_
        refine px_ HT_ 6 71 639 ?_
        refine px_ HT_ 7 78 767 ?_
        refine px_ HT_ 8 79 1023 ?_
        exact norm_ (by simp only [putAll, Act.put, lstS, lstZ, lstC]) (hCont (gb254) _ ⟨hHeld, (ra_ HO_12.out), (bl_ BK237).out, (bl_ BK238).out, (bl_ BK254).out, GW254.out, GW254.out, NB237_254.out, NB254_237.out, NB238_254.out, NB254_238.out, (bw_ HB).out⟩)
       skip
       refine bz_ 15 #[.int .i64 0, .int .i64 0] 74 ?_
       intro gb254 hg w64 BK254 hb
       have GW254 := bs_ HB hg
       have NB237_254 := bm_ BK237 hg
       have NB254_237 := bn_ BK237 hg
       have NB238_254 := bm_ BK238 hg
       have NB254_238 := bn_ BK238 hg
       replace HO_12 := rb_ HO_12 hb
       replace BK237 := bb_ BK237 hb
       replace BK238 := bb_ BK238 hb
       replace HB := bt_ HB hb
       clear hb hg
       refine hK.out _ _ ⟨cz_ BK237 0, cz_ BK237 1⟩ (fun hHeld => ?_)
       clear hK K
       refine nm_ (some 15) ?_
       refine on_ HT_ 3 (some 75) (bv_ 12 543) (fun K hK => ?_)
       refine gs_ Try.func137 #[.slice A1 l1.length c1, .int .i64 (wrap64 (-x13_4))] ?_
       with_reducible refine (spec_l09Letter.calls k4 _ _ l1 (wrap64 (-x13_4)) t247 t248 t249 t250 _ ?side1 ?side2 A44.out).mono ?_
       (case side1 => exact ca_ (Kd.C_below HR1.out HB.out))
       (case side2 => exact HC1.out)
       rintro e w65 ⟨rfl, hb⟩
       refine ⟨_, rfl, ?_⟩
       replace HO_12 := rb_ HO_12 hb
       replace BK237 := bb_ BK237 hb
       replace BK238 := bb_ BK238 hb
       replace BK254 := bb_ BK254 hb
       replace HB := bt_ HB hb
       try clear hb
       refine hK.out _ _ ⟨cz_ BK237 0, cz_ BK237 1⟩ (fun hHeld => ?_)
       clear hK K
       refine nm_ (some 75) ?_
       refine on_ HT_ 5 (some 77) (bv_ 12 575) (fun K hK => ?_)
       refine gs_ Try.func136 #[.agg #[.int .i64 t247, .int .i64 t248, .int .i64 t249, .int .i64 t250], .agg #[.int .i64 x238000_3, .int .i64 x238001_3]] ?_
       with_reducible refine (spec_l04End.calls k4 t247 t248 t249 t250 x238000_3 x238001_3 t251 t252 false _ A45.out).mono ?_
       rintro e w66 ⟨rfl, hb⟩
       refine ⟨_, rfl, ?_⟩
       replace HO_12 := rb_ HO_12 hb
       replace BK237 := bb_ BK237 hb
       replace BK238 := bb_ BK238 hb
       replace BK254 := bb_ BK254 hb
       replace HB := bt_ HB hb
       try clear hb
       refine hK.out _ _ ⟨cz_ BK237 0, cz_ BK237 1⟩ (fun hHeld => ?_)
       clear hK K
       refine nm_ (some 77) ?_
       refine px_ HT_ 6 71 639 ?_
       refine px_ HT_ 7 78 767 ?_
       refine px_ HT_ 8 79 1023 ?_
       exact norm_ (by simp only [putAll, Act.put, lstS, lstZ, lstC]) (hCont (gb254) _ ⟨hHeld, (ra_ HO_12.out), (bl_ BK237).out, (bl_ BK238).out, (bl_ BK254).out, GW254.out, GW254.out, NB237_254.out, NB254_237.out, NB238_254.out, NB254_238.out, (bw_ HB).out⟩)
      rintro gb254 w67 ⟨hS_, h0_, h1_, h2_, h3_, h4_, h5_, h6_, h7_, h8_, h9_, h10_⟩
      clear HO_12 BK237 BK238 HB
      have HO_12 := Aside0.mk h0_
      have BK237 := Aside0.mk h1_
      have BK238 := Aside0.mk h2_
      have BK254 := Aside0.mk h3_
      have GW254 := Aside0.mk h4_
      have GW254 := Aside0.mk h5_
      have NB237_254 := Aside0.mk h6_
      have NB254_237 := Aside0.mk h7_
      have NB238_254 := Aside0.mk h8_
      have NB254_238 := Aside0.mk h9_
      have HB := Aside0.mk h10_
      clear h0_ h1_ h2_ h3_ h4_ h5_ h6_ h7_ h8_ h9_ h10_
      have hHeld : w67.cell? ⟨gb237, 0, none⟩ = some (.int .i64 x238000_3) ∧ w67.cell? ⟨gb237, 1, none⟩ = some (.int .i64 x238001_3) := hS_
      refine norm_ (a' := ?_) ?_ ?_
      rotate_left
      ·simp only [putAll, Act.put, lstS, lstZ, lstC]
       rfl
      refine on_ HT_ 10 none (bv_ 12 2047) (fun K hK => ?_)
      have hs68 : w67.cell? ⟨gb254, 0, none⟩ = some (.int .i64 0) := (blk_cell BK254.out 0).trans rfl
      have hfs68 := blk_frozen BK254.out 0
      have hns68_0 := NB237_254.out
      have hns68_1 := NB238_254.out
      have hms68_0 := NB254_237.out
      have hms68_1 := NB254_238.out
      have hs69 : w67.cell? ⟨gb254, 1, none⟩ = some (.int .i64 0) := (blk_cell BK254.out 1).trans rfl
      have hfs69 := blk_frozen BK254.out 1
      have hns69_0 := NB237_254.out
      have hns69_1 := NB238_254.out
      have hms69_0 := NB254_237.out
      have hms69_1 := NB254_238.out
      refine skip_ (w1 := ?_) (by rfl) rfl ?_ ?_
      rotate_left
      ·go_simp
       rfl
      refine hK.out _ _ ⟨(cg_ NB237_254 ((cg_ NB237_254 (hHeld.1)))), (cg_ NB237_254 ((cg_ NB237_254 (hHeld.2))))⟩ (fun hHeld => ?_)
      clear hK K
      refine px_ HT_ 11 16 4095 ?_
      refine done_ (done_of HT_.out (by kernel_rfl)) ?_
      have hnb70 := NB238_237.out
      have hnc70 := NB237_238.out
      have hnb71 := NB238_254.out
      have hnc71 := NB254_238.out
      obtain ⟨hcz72_0, hcz72_1, hfz72_0, hfz72_1⟩ := ch2_ BK238
      try go_wp2
      refine bodyPost_ret (results_list (rs := [.tmp 8, .cell 9 74, .tmp 10]) rfl (by simp) (.tmp (.cell gb238 74 #[.int .i64 0, .int .i64 0] (0, 0) _ rfl (bp_ BK238).out Try.underlying74 rfl (by kernel_rfl) (.tmp .nil)))) rfl ?_
      exact ⟨_, es_, by first | exact Kd.R_nil _ _ _ _ _ | exact Kd.N_nil _ _ _ _ _ | exact Kd.V_nil _ _ _ _ _ | exact Kd.Q_nil _ _ _ _ _ | exact Kd.S_nil _ _ _ _ _, (bw_ HB).out⟩
   simp only [Option.some.injEq, Prod.mk.injEq] at H
   obtain ⟨rfl, rfl, rfl, rfl⟩ := H
   have hnb73 := NB238_237.out
   have hnc73 := NB237_238.out
   obtain ⟨hcz74_0, hcz74_1, hfz74_0, hfz74_1⟩ := ch2_ BK238
   go_wp2
   refine bodyPost_ret (results_list (rs := [.tmp 8, .cell 9 74, .tmp 10]) rfl (by simp) (.tmp (.cell gb238 74 #[.int .i64 0, .int .i64 0] (0, 0) _ rfl (bp_ BK238).out Try.underlying74 rfl (by kernel_rfl) (.tmp .nil)))) rfl ?_
   exact ⟨_, es_, by first | exact Kd.R_nil _ _ _ _ _ | exact Kd.N_nil _ _ _ _ _ | exact Kd.V_nil _ _ _ _ _ | exact Kd.Q_nil _ _ _ _ _ | exact Kd.S_nil _ _ _ _ _, (bw_ HB).out⟩
end Go.Proofs.Ytgoeelhiffbjlaa.QB
