import Derived.Test.YtgoeelhiffbjlaaQBx52
namespace Go.Proofs.Ytgoeelhiffbjlaa.QB
set_option maxHeartbeats 8000000
set_option maxRecDepth 100000
open Go.RowKit YtgoeelhiffbjlaaW.PrintWords YtgoeelhiffbjlaaW.PrintLast YtgoeelhiffbjlaaW.PrintMore
attribute [local go_sem] isSome_setCell max2_int min2_int max_two min_two max_three min_three max_four min_four
set_option linter.unusedVariables false
set_option linter.unusedSimpArgs false
def impl_endAt.f (k : Nat) (a0 a1 : Int) : Option (Int × Int × Bool) := if a1 = 0 then (some (1, 0, true)) else ((impl_gcd.f k a0 a1).bind fun t457 => (if a1 < 0 then (if (wrap64 (-t457)) = 0 then (none) else ((impl_IsEnd.f k (wrap64 (Int.tdiv a0 (wrap64 (-t457)))) (wrap64 (Int.tdiv a1 (wrap64 (-t457))))).bind fun t459 => (some (wrap64 (Int.tdiv a0 (wrap64 (-t457))), wrap64 (Int.tdiv a1 (wrap64 (-t457))), t459)))) else (if t457 = 0 then (none) else ((impl_IsEnd.f k (wrap64 (Int.tdiv a0 t457)) (wrap64 (Int.tdiv a1 t457))).bind fun t461 => (some (wrap64 (Int.tdiv a0 t457), wrap64 (Int.tdiv a1 t457), t461))))))
def impl_endAt.T6 : Bool × List (List Nat × List Nat) := (true, [([], []), ([], []), ([0, 1], [0, 1]), ([], []), ([], []), ([3, 4], [3, 4]), ([2, 5], [2, 5]), ([], []), ([7, 6, 0, 1, 2, 3, 4, 5, 6, 7], [6, 7])])
def impl_endAt.B6 : List Nat := [0, 0, 3, 0, 0, 24, 63, 0, 255]
theorem impl_endAt.tab6 : rtab .any (opsOf Try.f181 6) = impl_endAt.T6 := by kernel_rfl
theorem impl_endAt.bits6 : waitsOk impl_endAt.T6.2 impl_endAt.B6 = true := by kernel_rfl
theorem impl_endAt.calls (k : Nat) (a0 a1 r1 r2 : Int) (r3 : Bool) (w : World) (h : impl_endAt.f k a0 a1 = some (r1, r2, r3)) :
  Calls Try.prog 181 #[.int .i64 a0, .int .i64 a1] w fun e w' => e = .returned (.tuple #[.agg #[.int .i64 r1, .int .i64 r2], .bool r3]) ∧ Below w.heap.size w w' := by
 have hu74 := Try.underlying74
 have HB := Aside0.mk (Below.refl w.heap.size w)
 unfold impl_endAt.f at h
 have H := h
 clear h
 replace H := ie_ H
 rcases H with ⟨c3b0, c3b1, H⟩ | ⟨c3, c3b0, c3b1, H⟩
 ·simp only [Option.some.injEq, Prod.mk.injEq] at H
  obtain ⟨rfl, rfl, rfl⟩ := H
  go_enter Try.func181, Try.ntmps181
  go_wp2_with (first | ((refine gd_ 4 ?_); refine by_ 4 #[.int .i64 0, .int .i64 0] 74 HB ?_; intro gb456 hg w4 BK456 hb GW456 HB_; replace HB := HB_; clear hb hg; obtain ⟨hcz5_0, hcz5_1, hfz5_0, hfz5_1⟩ := ch2_ BK456))
  refine bodyPost_ret (results_ct rfl _ _ gb456 74 #[.int .i64 1, .int .i64 0] (0, 0) _ rfl (bp_ BK456).out Try.underlying74 rfl (by kernel_rfl)) rfl ?_
  exact ⟨es_, (bw_ HB).out⟩
 replace H := oc_ H
 obtain ⟨t457, A6, H⟩ := H
 replace H := il_ H
 rcases H with ⟨c7b0, H⟩ | ⟨c7b0, H⟩
 ·replace H := ief_ H
  obtain ⟨c8, c8b0, c8b1, H⟩ := H
  replace H := oc_ H
  obtain ⟨t459, A9, H⟩ := H
  simp only [Option.some.injEq, Prod.mk.injEq] at H
  obtain ⟨rfl, rfl, rfl⟩ := H
  go_enter Try.func181, Try.ntmps181
  try go_wp2_with (first | ((refine gd_ 4 ?_); refine by_ 4 #[.int .i64 0, .int .i64 0] 74 HB ?_; intro gb456 hg w10 BK456 hb GW456 HB_; replace HB := HB_; clear hb hg) | ((refine gc_ 177 ?_); refine ge_ 13 Try.func177 #[.int .i64 a0, .int .i64 a1] ?_; (with_reducible refine (impl_gcd.calls k a0 a1 t457 _ A6.out).mono ?_); rintro e w11 ⟨rfl, hb⟩; refine ⟨_, rfl, ?_⟩; replace BK456 := bb_ BK456 hb; replace HB := bt_ HB hb; (try clear hb)))
  replace BK456 := bd_ BK456
  replace HB := be_ HB
  refine start_ (n := 9) (S := fun w' => True) (ds := []) (bv_ 9 0) (by kernel_rfl) rfl rfl trivial (fun hHeld => ?_); refine with_tabW impl_endAt.tab6 impl_endAt.bits6 (fun HT_ HW_ => ?_)
  generalize w11.drew = w12 at BK456 HB hHeld ⊢
  refine px_ HT_ 0 18 1 ?_
  refine px_ HT_ 1 19 3 ?_
  refine px_ HT_ 2 20 7 ?_
  refine px_ HT_ 3 21 15 ?_
  refine px_ HT_ 4 22 31 ?_
  refine px_ HT_ 5 23 63 ?_
  refine px_ HT_ 6 24 127 ?_
  refine on_ HT_ 7 (some 7) (bv_ 9 255) (fun K hK => ?_)
  refine bz_ 7 #[.int .i64 0, .int .i64 0] 74 ?_
  intro gb458 hg w13 BK458 hb
  have GW458 := bs_ HB hg
  have NB456_458 := bm_ BK456 hg
  have NB458_456 := bn_ BK456 hg
  replace BK456 := bb_ BK456 hb
  replace HB := bt_ HB hb
  clear hb hg
  refine hK.out _ _ trivial (fun hHeld => ?_)
  clear hK K
  refine nm_ (some 7) ?_
  refine on_ HT_ 8 none (bv_ 9 511) (fun K hK => ?_)
  have hs14 : w13.cell? ⟨gb458, 0, none⟩ = some (.int .i64 0) := (blk_cell BK458.out 0).trans rfl
  have hfs14 := blk_frozen BK458.out 0
  have hns14_0 := NB456_458.out
  have hms14_0 := NB458_456.out
  have hs15 : w13.cell? ⟨gb458, 1, none⟩ = some (.int .i64 0) := (blk_cell BK458.out 1).trans rfl
  have hfs15 := blk_frozen BK458.out 1
  have hns15_0 := NB456_458.out
  have hms15_0 := NB458_456.out
  refine skip_ (w1 := ?_) (by rfl) rfl ?_ ?_
  rotate_left
  ·go_simp
   rfl
  refine hK.out _ _ trivial (fun hHeld => ?_)
  clear hK K
  refine done_ (done_of HT_.out (by kernel_rfl)) ?_
  try go_wp2
  have n0_ : Aside0 (((w13.setCell ⟨gb458, 0, none⟩ (.int .i64 (wrap64 (Int.tdiv a0 (wrap64 (-t457)))))).setCell ⟨gb458, 1, none⟩ (.int .i64 (wrap64 (Int.tdiv a1 (wrap64 (-t457)))))).heap[gb456]? = some (.cells #[.int .i64 0, .int .i64 0] 74 (0, 0))) := fl_ BK456 NB456_458
  have n1_ : Aside0 (((w13.setCell ⟨gb458, 0, none⟩ (.int .i64 (wrap64 (Int.tdiv a0 (wrap64 (-t457)))))).setCell ⟨gb458, 1, none⟩ (.int .i64 (wrap64 (Int.tdiv a1 (wrap64 (-t457)))))).heap[gb458]? = some (.cells #[.int .i64 (wrap64 (Int.tdiv a0 (wrap64 (-t457)))), .int .i64 (wrap64 (Int.tdiv a1 (wrap64 (-t457))))] 74 (0, 0))) := bp_ BK458
  have n2_ : Aside0 (Below w.heap.size w ((w13.setCell ⟨gb458, 0, none⟩ (.int .i64 (wrap64 (Int.tdiv a0 (wrap64 (-t457)))))).setCell ⟨gb458, 1, none⟩ (.int .i64 (wrap64 (Int.tdiv a1 (wrap64 (-t457))))))) := bw_ HB
  (try clear BK456)
  (try clear BK458)
  (try clear HB)
  generalize ((w13.setCell ⟨gb458, 0, none⟩ (.int .i64 (wrap64 (Int.tdiv a0 (wrap64 (-t457)))))).setCell ⟨gb458, 1, none⟩ (.int .i64 (wrap64 (Int.tdiv a1 (wrap64 (-t457)))))) = w16 at n0_ n1_ n2_ ⊢
  have BK456 := n0_
  have BK458 := n1_
  have HB := n2_
  clear n0_ n1_ n2_
  replace BK456 := bd_ BK456
  replace BK458 := bd_ BK458
  replace HB := be_ HB
  refine start_ (n := 5) (S := fun w' => w'.cell? ⟨gb458, 0, none⟩ = some (.int .i64 (wrap64 (Int.tdiv a0 (wrap64 (-t457))))) ∧ w'.cell? ⟨gb458, 1, none⟩ = some (.int .i64 (wrap64 (Int.tdiv a1 (wrap64 (-t457)))))) (ds := []) (bv_ 5 0) (by kernel_rfl) rfl rfl ⟨cz_ BK458 0, cz_ BK458 1⟩ (fun hHeld => ?_)
  generalize w16.drew = w17 at BK456 BK458 HB hHeld ⊢
  refine take_ (i := 0) (N := some 25) (v := ?_) (a' := ?_) (bv_ 5 1) rfl rfl (by kernel_rfl) (fun _ _ _ h => h) (Or.inl ⟨by rfl, ?_⟩) hHeld ?_ ?_
  rotate_left
  ·rintro w' ⟨s0, s1⟩
   go_simp
   with_reducible rfl
  rotate_left
  ·simp only [Act.put, lstS, lstZ, lstC, i64_w, i32_w]
   rfl
  refine take_ (i := 1) (N := some 26) (v := ?_) (a' := ?_) (bv_ 5 3) rfl rfl (by kernel_rfl) (fun _ _ _ h => h) (Or.inl ⟨by rfl, ?_⟩) hHeld ?_ ?_
  rotate_left
  ·rintro w' ⟨s0, s1⟩
   go_simp
   with_reducible rfl
  rotate_left
  ·simp only [Act.put, lstS, lstZ, lstC, i64_w, i32_w]
   rfl
  refine one_ (i := 2) (N := some 27) (bv_ 5 7) rfl rfl (by kernel_rfl) (by decide) (fun K hK => ?_)
  refine gs_ Try.func140 #[.agg #[.int .i64 (wrap64 (Int.tdiv a0 (wrap64 (-t457)))), .int .i64 (wrap64 (Int.tdiv a1 (wrap64 (-t457))))]] ?_
  with_reducible refine (impl_IsEnd.calls k (wrap64 (Int.tdiv a0 (wrap64 (-t457)))) (wrap64 (Int.tdiv a1 (wrap64 (-t457)))) t459 _ A9.out).mono ?_
  rintro e w18 ⟨rfl, hb⟩
  refine ⟨_, rfl, ?_⟩
  replace BK456 := bb_ BK456 hb
  replace BK458 := bb_ BK458 hb
  replace HB := bt_ HB hb
  try clear hb
  refine hK.out _ _ ⟨cz_ BK458 0, cz_ BK458 1⟩ (fun hHeld => ?_)
  clear hK K
  refine nm_ (some 27) ?_
  refine one_ (i := 3) (N := none) (bv_ 5 15) rfl rfl (by kernel_rfl) (by decide) (fun K hK => ?_)
  have hs19 : w18.cell? ⟨gb456, 0, none⟩ = some (.int .i64 0) := (blk_cell BK456.out 0).trans rfl
  have hfs19 := blk_frozen BK456.out 0
  have hns19_1 := NB458_456.out
  have hms19_1 := NB456_458.out
  have hs20 : w18.cell? ⟨gb456, 1, none⟩ = some (.int .i64 0) := (blk_cell BK456.out 1).trans rfl
  have hfs20 := blk_frozen BK456.out 1
  have hns20_1 := NB458_456.out
  have hms20_1 := NB456_458.out
  refine skip_ (w1 := ?_) (by rfl) rfl ?_ ?_
  rotate_left
  ·go_simp
   rfl
  refine hK.out _ _ ⟨(cg_ NB458_456 ((cg_ NB458_456 (hHeld.1)))), (cg_ NB458_456 ((cg_ NB458_456 (hHeld.2))))⟩ (fun hHeld => ?_)
  clear hK K
  refine pure_ (i := 4) (N := some 5) (v := ?_) (a' := ?_) (bv_ 5 31) rfl rfl (by kernel_rfl) (fun _ _ _ h => h) (Or.inl ⟨by rfl, ?_⟩) ?_ ?_
  rotate_left
  ·intro w'
   go_simp
   with_reducible rfl
  rotate_left
  ·simp only [Act.put, lstS, lstZ, lstC, i64_w, i32_w]
   rfl
  refine done_ (by kernel_rfl) ?_
  try go_wp2
  refine bodyPost_ret (results_ct rfl _ _ gb456 74 #[.int .i64 (wrap64 (Int.tdiv a0 (wrap64 (-t457)))), .int .i64 (wrap64 (Int.tdiv a1 (wrap64 (-t457))))] (0, 0) _ rfl (bp_ BK456).out Try.underlying74 rfl (by kernel_rfl)) rfl ?_
  exact ⟨es_, (bw_ HB).out⟩
 replace H := ief_ H
 obtain ⟨c21, c21b0, c21b1, H⟩ := H
 replace H := oc_ H
 obtain ⟨t461, A22, H⟩ := H
 simp only [Option.some.injEq, Prod.mk.injEq] at H
 obtain ⟨rfl, rfl, rfl⟩ := H
 go_enter Try.func181, Try.ntmps181
 try go_wp2_with (first | ((refine gd_ 4 ?_); refine by_ 4 #[.int .i64 0, .int .i64 0] 74 HB ?_; intro gb456 hg w23 BK456 hb GW456 HB_; replace HB := HB_; clear hb hg) | ((refine gc_ 177 ?_); refine ge_ 13 Try.func177 #[.int .i64 a0, .int .i64 a1] ?_; (with_reducible refine (impl_gcd.calls k a0 a1 t457 _ A6.out).mono ?_); rintro e w24 ⟨rfl, hb⟩; refine ⟨_, rfl, ?_⟩; replace BK456 := bb_ BK456 hb; replace HB := bt_ HB hb; (try clear hb)))
 replace BK456 := bd_ BK456
 replace HB := be_ HB
 refine start_ (n := 9) (S := fun w' => True) (ds := []) (bv_ 9 0) (by kernel_rfl) rfl rfl trivial (fun hHeld => ?_); refine with_tabW impl_endAt.tab6 impl_endAt.bits6 (fun HT_ HW_ => ?_)
 generalize w24.drew = w25 at BK456 HB hHeld ⊢
 refine px_ HT_ 0 18 1 ?_
 refine px_ HT_ 1 19 3 ?_
 refine px_ HT_ 2 20 7 ?_
 refine px_ HT_ 3 21 15 ?_
 refine px_ HT_ 4 22 31 ?_
 refine px_ HT_ 5 23 63 ?_
 refine px_ HT_ 6 24 127 ?_
 refine on_ HT_ 7 (some 7) (bv_ 9 255) (fun K hK => ?_)
 refine bz_ 7 #[.int .i64 0, .int .i64 0] 74 ?_
 intro gb460 hg w26 BK460 hb
 have GW460 := bs_ HB hg
 have NB456_460 := bm_ BK456 hg
 have NB460_456 := bn_ BK456 hg
 replace BK456 := bb_ BK456 hb
 replace HB := bt_ HB hb
 clear hb hg
 refine hK.out _ _ trivial (fun hHeld => ?_)
 clear hK K
 refine nm_ (some 7) ?_
 refine on_ HT_ 8 none (bv_ 9 511) (fun K hK => ?_)
 have hs27 : w26.cell? ⟨gb460, 0, none⟩ = some (.int .i64 0) := (blk_cell BK460.out 0).trans rfl
 have hfs27 := blk_frozen BK460.out 0
 have hns27_0 := NB456_460.out
 have hms27_0 := NB460_456.out
 have hs28 : w26.cell? ⟨gb460, 1, none⟩ = some (.int .i64 0) := (blk_cell BK460.out 1).trans rfl
 have hfs28 := blk_frozen BK460.out 1
 have hns28_0 := NB456_460.out
 have hms28_0 := NB460_456.out
 refine skip_ (w1 := ?_) (by rfl) rfl ?_ ?_
 rotate_left
 ·go_simp
  rfl
 refine hK.out _ _ trivial (fun hHeld => ?_)
 clear hK K
 refine done_ (done_of HT_.out (by kernel_rfl)) ?_
 try go_wp2
 have n0_ : Aside0 (((w26.setCell ⟨gb460, 0, none⟩ (.int .i64 (wrap64 (Int.tdiv a0 t457)))).setCell ⟨gb460, 1, none⟩ (.int .i64 (wrap64 (Int.tdiv a1 t457)))).heap[gb456]? = some (.cells #[.int .i64 0, .int .i64 0] 74 (0, 0))) := fl_ BK456 NB456_460
 have n1_ : Aside0 (((w26.setCell ⟨gb460, 0, none⟩ (.int .i64 (wrap64 (Int.tdiv a0 t457)))).setCell ⟨gb460, 1, none⟩ (.int .i64 (wrap64 (Int.tdiv a1 t457)))).heap[gb460]? = some (.cells #[.int .i64 (wrap64 (Int.tdiv a0 t457)), .int .i64 (wrap64 (Int.tdiv a1 t457))] 74 (0, 0))) := bp_ BK460
 have n2_ : Aside0 (Below w.heap.size w ((w26.setCell ⟨gb460, 0, none⟩ (.int .i64 (wrap64 (Int.tdiv a0 t457)))).setCell ⟨gb460, 1, none⟩ (.int .i64 (wrap64 (Int.tdiv a1 t457))))) := bw_ HB
 (try clear BK456)
 (try clear BK460)
 (try clear HB)
 generalize ((w26.setCell ⟨gb460, 0, none⟩ (.int .i64 (wrap64 (Int.tdiv a0 t457)))).setCell ⟨gb460, 1, none⟩ (.int .i64 (wrap64 (Int.tdiv a1 t457)))) = w29 at n0_ n1_ n2_ ⊢
 have BK456 := n0_
 have BK460 := n1_
 have HB := n2_
 clear n0_ n1_ n2_
 replace BK456 := bd_ BK456
 replace BK460 := bd_ BK460
 replace HB := be_ HB
 refine start_ (n := 5) (S := fun w' => w'.cell? ⟨gb460, 0, none⟩ = some (.int .i64 (wrap64 (Int.tdiv a0 t457))) ∧ w'.cell? ⟨gb460, 1, none⟩ = some (.int .i64 (wrap64 (Int.tdiv a1 t457)))) (ds := []) (bv_ 5 0) (by kernel_rfl) rfl rfl ⟨cz_ BK460 0, cz_ BK460 1⟩ (fun hHeld => ?_)
 generalize w29.drew = w30 at BK456 BK460 HB hHeld ⊢
 refine take_ (i := 0) (N := some 25) (v := ?_) (a' := ?_) (bv_ 5 1) rfl rfl (by kernel_rfl) (fun _ _ _ h => h) (Or.inl ⟨by rfl, ?_⟩) hHeld ?_ ?_
 rotate_left
 ·rintro w' ⟨s0, s1⟩
  go_simp
  with_reducible rfl
 rotate_left
 ·simp only [Act.put, lstS, lstZ, lstC, i64_w, i32_w]
  rfl
 refine take_ (i := 1) (N := some 26) (v := ?_) (a' := ?_) (bv_ 5 3) rfl rfl (by kernel_rfl) (fun _ _ _ h => h) (Or.inl ⟨by rfl, ?_⟩) hHeld ?_ ?_
 rotate_left
 ·rintro w' ⟨s0, s1⟩
  go_simp
  with_reducible rfl
 rotate_left
 ·simp only [Act.put, lstS, lstZ, lstC, i64_w, i32_w]
  rfl
 refine one_ (i := 2) (N := some 27) (bv_ 5 7) rfl rfl (by kernel_rfl) (by decide) (fun K hK => ?_)
 refine gs_ Try.func140 #[.agg #[.int .i64 (wrap64 (Int.tdiv a0 t457)), .int .i64 (wrap64 (Int.tdiv a1 t457))]] ?_
 with_reducible refine (impl_IsEnd.calls k (wrap64 (Int.tdiv a0 t457)) (wrap64 (Int.tdiv a1 t457)) t461 _ A22.out).mono ?_
 rintro e w31 ⟨rfl, hb⟩
 refine ⟨_, rfl, ?_⟩
 replace BK456 := bb_ BK456 hb
 replace BK460 := bb_ BK460 hb
 replace HB := bt_ HB hb
 try clear hb
 refine hK.out _ _ ⟨cz_ BK460 0, cz_ BK460 1⟩ (fun hHeld => ?_)
 clear hK K
 refine nm_ (some 27) ?_
 refine one_ (i := 3) (N := none) (bv_ 5 15) rfl rfl (by kernel_rfl) (by decide) (fun K hK => ?_)
 have hs32 : w31.cell? ⟨gb456, 0, none⟩ = some (.int .i64 0) := (blk_cell BK456.out 0).trans rfl
 have hfs32 := blk_frozen BK456.out 0
 have hns32_1 := NB460_456.out
 have hms32_1 := NB456_460.out
 have hs33 : w31.cell? ⟨gb456, 1, none⟩ = some (.int .i64 0) := (blk_cell BK456.out 1).trans rfl
 have hfs33 := blk_frozen BK456.out 1
 have hns33_1 := NB460_456.out
 have hms33_1 := NB456_460.out
 refine skip_ (w1 := ?_) (by rfl) rfl ?_ ?_
 rotate_left
 ·go_simp
  rfl
 refine hK.out _ _ ⟨(cg_ NB460_456 ((cg_ NB460_456 (hHeld.1)))), (cg_ NB460_456 ((cg_ NB460_456 (hHeld.2))))⟩ (fun hHeld => ?_)
 clear hK K
 refine pure_ (i := 4) (N := some 5) (v := ?_) (a' := ?_) (bv_ 5 31) rfl rfl (by kernel_rfl) (fun _ _ _ h => h) (Or.inl ⟨by rfl, ?_⟩) ?_ ?_
 rotate_left
 ·intro w'
  go_simp
  with_reducible rfl
 rotate_left
 ·simp only [Act.put, lstS, lstZ, lstC, i64_w, i32_w]
  rfl
 refine done_ (by kernel_rfl) ?_
 try go_wp2
 refine bodyPost_ret (results_ct rfl _ _ gb456 74 #[.int .i64 (wrap64 (Int.tdiv a0 t457)), .int .i64 (wrap64 (Int.tdiv a1 t457))] (0, 0) _ rfl (bp_ BK456).out Try.underlying74 rfl (by kernel_rfl)) rfl ?_
 exact ⟨es_, (bw_ HB).out⟩
def impl_moveEnd.f (k : Nat) (a0_0 a0_1 a0_2 a0_3 a1_0 a1_1 : Int) : Option (Int × Int × Bool) := (impl_endAt.f k (wrap64 ((wrap64 (a0_0 * a1_0)) + (wrap64 (a0_1 * a1_1)))) (wrap64 ((wrap64 (a0_2 * a1_0)) + (wrap64 (a0_3 * a1_1))))).bind fun bt465 => (some (bt465.1, bt465.2.1, bt465.2.2))
theorem impl_moveEnd.calls (k : Nat) (a0_0 a0_1 a0_2 a0_3 a1_0 a1_1 r1 r2 : Int) (r3 : Bool) (w : World) (h : impl_moveEnd.f k a0_0 a0_1 a0_2 a0_3 a1_0 a1_1 = some (r1, r2, r3)) :
  Calls Try.prog 143 #[.agg #[.int .i64 a0_0, .int .i64 a0_1, .int .i64 a0_2, .int .i64 a0_3], .agg #[.int .i64 a1_0, .int .i64 a1_1]] w fun e w' => e = .returned (.tuple #[.agg #[.int .i64 r1, .int .i64 r2], .bool r3]) ∧ Below w.heap.size w w' := by
 have hu46 := Try.underlying46
 have hu74 := Try.underlying74
 have hu44 := Try.underlying44
 have HB := Aside0.mk (Below.refl w.heap.size w)
 unfold impl_moveEnd.f at h
 have H := h
 clear h
 replace H := oc_ H
 obtain ⟨⟨t465, t466, t467⟩, A3, H⟩ := H
 simp only [Option.some.injEq, Prod.mk.injEq] at H
 obtain ⟨rfl, rfl, rfl⟩ := H
 go_enter Try.func143, Try.ntmps143
 go_wp2_with (first | ((refine gd_ 2 ?_); refine by_ 2 #[.int .i64 a0_0, .int .i64 a0_1, .int .i64 a0_2, .int .i64 a0_3] 46 HB ?_; intro gb462 hg w4 BK462 hb GW462 HB_; replace HB := HB_; clear hb hg) | ((refine gd_ 3 ?_); refine by_ 3 #[.int .i64 a1_0, .int .i64 a1_1] 74 HB ?_; intro gb463 hg w5 BK463 hb GW463 HB_; have NB462_463 := bm_ BK462 hg; have NB463_462 := bn_ BK462 hg; replace BK462 := bb_ BK462 hb; replace HB := HB_; clear hb hg) | ((refine gd_ 4 ?_); refine by_ 4 #[.int .i64 0, .int .i64 0] 74 HB ?_; intro gb464 hg w6 BK464 hb GW464 HB_; have NB462_464 := bm_ BK462 hg; have NB464_462 := bn_ BK462 hg; have NB463_464 := bm_ BK463 hg; have NB464_463 := bn_ BK463 hg; replace BK462 := bb_ BK462 hb; replace BK463 := bb_ BK463 hb; replace HB := HB_; clear hb hg; have hnb7 := NB462_463.out; have hnc7 := NB463_462.out; have hnb8 := NB462_464.out; have hnc8 := NB464_462.out; obtain ⟨hcz9_0, hcz9_1, hcz9_2, hcz9_3, hfz9_0, hfz9_1, hfz9_2, hfz9_3⟩ := ch4_ BK462; have hnb10 := NB463_464.out; have hnc10 := NB464_463.out; obtain ⟨hcz11_0, hcz11_1, hfz11_0, hfz11_1⟩ := ch2_ BK463) | ((refine gc_ 181 ?_); refine ge_ 32 Try.func181 #[.int .i64 (wrap64 ((wrap64 (a0_0 * a1_0)) + (wrap64 (a0_1 * a1_1)))), .int .i64 (wrap64 ((wrap64 (a0_2 * a1_0)) + (wrap64 (a0_3 * a1_1))))] ?_; (with_reducible refine (impl_endAt.calls k (wrap64 ((wrap64 (a0_0 * a1_0)) + (wrap64 (a0_1 * a1_1)))) (wrap64 ((wrap64 (a0_2 * a1_0)) + (wrap64 (a0_3 * a1_1)))) t465 t466 t467 _ A3.out).mono ?_); rintro e w12 ⟨rfl, hb⟩; refine ⟨_, rfl, ?_⟩; replace BK462 := bb_ BK462 hb; replace BK463 := bb_ BK463 hb; replace BK464 := bb_ BK464 hb; replace HB := bt_ HB hb; (try clear hb); obtain ⟨hcz13_0, hcz13_1, hfz13_0, hfz13_1⟩ := ch2_ BK464))
 refine bodyPost_ret (results_ct rfl _ _ gb464 74 #[.int .i64 t465, .int .i64 t466] (0, 0) _ rfl (bp_ BK464).out Try.underlying74 rfl (by kernel_rfl)) rfl ?_
 exact ⟨es_, (bw_ HB).out⟩
def impl_letterMatrix.f (k : Nat) (l0 : List (S46)) (a1 : Int) : Option (Int × Int × Int × Int) := if a1 < 0 then (if 0 ≤ (wrap64 ((wrap64 (-a1)) - 1)) then (if (wrap64 ((wrap64 (-a1)) - 1)) < (l0.length : Int) then ((impl_inverted.f k ((rd_T46 l0 (wrap64 ((wrap64 (-a1)) - 1))).f0.f0) ((rd_T46 l0 (wrap64 ((wrap64 (-a1)) - 1))).f0.f1) ((rd_T46 l0 (wrap64 ((wrap64 (-a1)) - 1))).f1.f0) ((rd_T46 l0 (wrap64 ((wrap64 (-a1)) - 1))).f1.f1)).bind fun bt470 => (some (bt470.1, bt470.2.1, bt470.2.2.1, bt470.2.2.2))) else (none)) else (none)) else (if 0 ≤ (wrap64 (a1 - 1)) then (if (wrap64 (a1 - 1)) < (l0.length : Int) then ((impl_reduce.f k ((rd_T46 l0 (wrap64 (a1 - 1))).f0.f0) ((rd_T46 l0 (wrap64 (a1 - 1))).f0.f1) ((rd_T46 l0 (wrap64 (a1 - 1))).f1.f0) ((rd_T46 l0 (wrap64 (a1 - 1))).f1.f1)).bind fun bt475 => (some (bt475.1, bt475.2.1, bt475.2.2.1, bt475.2.2.2))) else (none)) else (none))
theorem impl_letterMatrix.calls (k : Nat) (A0 : Option Addr) (c0 : Nat) (l0 : List (S46)) (a1 r1 r2 r3 r4 : Int) (w : World) (hr0 : Kd.C k46 w A0 l0.length l0) (hc0 : l0.length ≤ c0) (h : impl_letterMatrix.f k l0 a1 = some (r1, r2, r3, r4)) :
  Calls Try.prog 144 #[.slice A0 l0.length c0, .int .i64 a1] w fun e w' => e = .returned (.agg #[.int .i64 r1, .int .i64 r2, .int .i64 r3, .int .i64 r4]) ∧ Below w.heap.size w w' := by
 have hu46 := Try.underlying46
 have HR0 := Aside0.mk hr0
 have HC0 := Aside0.mk hc0
 clear hr0 hc0
 have HB := Aside0.mk (Below.refl w.heap.size w)
 unfold impl_letterMatrix.f at h
 have H := h
 clear h
 replace H := il_ H
 rcases H with ⟨c3b0, H⟩ | ⟨c3b0, H⟩
 ·obtain ⟨ji4, hji4⟩ : ∃ j_ : Int, (wrap64 ((wrap64 (-a1)) - 1)) = j_ := ⟨_, rfl⟩
  replace H : (if 0 ≤ (ji4) then (if (ji4) < (l0.length : Int) then ((impl_inverted.f k ((rd_T46 l0 (ji4)).f0.f0) ((rd_T46 l0 (ji4)).f0.f1) ((rd_T46 l0 (ji4)).f1.f0) ((rd_T46 l0 (ji4)).f1.f1)).bind fun bt470 => (some (bt470.1, bt470.2.1, bt470.2.2.1, bt470.2.2.2))) else (none)) else (none)) = some (r1, r2, r3, r4) := by first | (rw [hji4] at H; exact H) | (simp only [hji4] at H ⊢; exact H)
  have hji4w : (IntKind.i64.wrap ((wrap64 (-a1)) - 1)) = ji4 := (i64_w _).trans hji4
  replace H := imn_ H
  obtain ⟨c5b0, H⟩ := H
  replace H := iln_ H
  obtain ⟨c6b0, H⟩ := H
  replace H := oc_ H
  obtain ⟨⟨t470, t471, t472, t473⟩, A7, H⟩ := H
  simp only [Option.some.injEq, Prod.mk.injEq] at H
  obtain ⟨rfl, rfl, rfl, rfl⟩ := H
  go_enter Try.func144, Try.ntmps144
  go_wp2_with (first | ((refine gd_ 4 ?_); refine by_ 4 #[.int .i64 0, .int .i64 0, .int .i64 0, .int .i64 0] 46 HB ?_; intro gb468 hg w8 BK468 hb GW468 HB_; replace HB := HB_; clear hb hg; have p469 : 0 ≤ ((ji4) : Int) := od_; have q469 : (ji4) < (l0.length : Int) := od_; obtain ⟨ad469, e469, hx469_0, hx469_1, hx469_2, hx469_3⟩ := at_T46 HR0.out (ji4) p469 q469; cases e469; replace hx469_0 := clTr HB.out hx469_0; replace hx469_1 := clTr HB.out hx469_1; replace hx469_2 := clTr HB.out hx469_2; replace hx469_3 := clTr HB.out hx469_3; replace p469 := eq_true p469; replace q469 := eq_true q469) | ((refine gc_ 97 ?_); refine ge_ 13 Try.func97 #[.agg #[.int .i64 ((rd_T46 l0 (ji4)).f0.f0), .int .i64 ((rd_T46 l0 (ji4)).f0.f1), .int .i64 ((rd_T46 l0 (ji4)).f1.f0), .int .i64 ((rd_T46 l0 (ji4)).f1.f1)]] ?_ (hargs := by (try simp only [List.map_toArray, List.map_cons, List.map_nil]); first | done | (simp only [hji4]; rfl) | rfl | (simp only [List.length_drop, List.length_take]; rfl)); (with_reducible refine (impl_inverted.calls k ((rd_T46 l0 (ji4)).f0.f0) ((rd_T46 l0 (ji4)).f0.f1) ((rd_T46 l0 (ji4)).f1.f0) ((rd_T46 l0 (ji4)).f1.f1) t470 t471 t472 t473 _ A7.out).mono ?_); rintro e w9 ⟨rfl, hb⟩; refine ⟨_, rfl, ?_⟩; replace BK468 := bb_ BK468 hb; replace HB := bt_ HB hb; (try clear hb); obtain ⟨hcz10_0, hcz10_1, hcz10_2, hcz10_3, hfz10_0, hfz10_1, hfz10_2, hfz10_3⟩ := ch4_ BK468))
  refine bodyPost_ret (results_cell_row rfl _ _ gb468 46 #[.int .i64 t470, .int .i64 t471, .int .i64 t472, .int .i64 t473] (0, 0) _ rfl (bp_ BK468).out Try.underlying46 rfl (by kernel_rfl)) rfl ?_
  exact ⟨by first | rfl | (simp [errW_none, errW_some] <;> rfl) | (simp only [← hji4]; first | rfl | (simp [errW_none, errW_some] <;> rfl)) | (simp [*, errW_none, errW_some] <;> rfl), (bw_ HB).out⟩
 obtain ⟨ji11, hji11⟩ : ∃ j_ : Int, (wrap64 (a1 - 1)) = j_ := ⟨_, rfl⟩
 replace H : (if 0 ≤ (ji11) then (if (ji11) < (l0.length : Int) then ((impl_reduce.f k ((rd_T46 l0 (ji11)).f0.f0) ((rd_T46 l0 (ji11)).f0.f1) ((rd_T46 l0 (ji11)).f1.f0) ((rd_T46 l0 (ji11)).f1.f1)).bind fun bt475 => (some (bt475.1, bt475.2.1, bt475.2.2.1, bt475.2.2.2))) else (none)) else (none)) = some (r1, r2, r3, r4) := by first | (rw [hji11] at H; exact H) | (simp only [hji11] at H ⊢; exact H)
 have hji11w : (IntKind.i64.wrap (a1 - 1)) = ji11 := (i64_w _).trans hji11
 replace H := imn_ H
 obtain ⟨c12b0, H⟩ := H
 replace H := iln_ H
 obtain ⟨c13b0, H⟩ := H
 replace H := oc_ H
 obtain ⟨⟨t475, t476, t477, t478⟩, A14, H⟩ := H
 simp only [Option.some.injEq, Prod.mk.injEq] at H
 obtain ⟨rfl, rfl, rfl, rfl⟩ := H
 go_enter Try.func144, Try.ntmps144
 go_wp2_with (first | ((refine gd_ 4 ?_); refine by_ 4 #[.int .i64 0, .int .i64 0, .int .i64 0, .int .i64 0] 46 HB ?_; intro gb468 hg w15 BK468 hb GW468 HB_; replace HB := HB_; clear hb hg; have p474 : 0 ≤ ((ji11) : Int) := od_; have q474 : (ji11) < (l0.length : Int) := od_; obtain ⟨ad474, e474, hx474_0, hx474_1, hx474_2, hx474_3⟩ := at_T46 HR0.out (ji11) p474 q474; cases e474; replace hx474_0 := clTr HB.out hx474_0; replace hx474_1 := clTr HB.out hx474_1; replace hx474_2 := clTr HB.out hx474_2; replace hx474_3 := clTr HB.out hx474_3; replace p474 := eq_true p474; replace q474 := eq_true q474) | ((refine gc_ 105 ?_); refine ge_ 19 Try.func105 #[.agg #[.int .i64 ((rd_T46 l0 (ji11)).f0.f0), .int .i64 ((rd_T46 l0 (ji11)).f0.f1), .int .i64 ((rd_T46 l0 (ji11)).f1.f0), .int .i64 ((rd_T46 l0 (ji11)).f1.f1)]] ?_ (hargs := by (try simp only [List.map_toArray, List.map_cons, List.map_nil]); first | done | (simp only [hji11]; rfl) | rfl | (simp only [List.length_drop, List.length_take]; rfl)); (with_reducible refine (impl_reduce.calls k ((rd_T46 l0 (ji11)).f0.f0) ((rd_T46 l0 (ji11)).f0.f1) ((rd_T46 l0 (ji11)).f1.f0) ((rd_T46 l0 (ji11)).f1.f1) t475 t476 t477 t478 _ A14.out).mono ?_); rintro e w16 ⟨rfl, hb⟩; refine ⟨_, rfl, ?_⟩; replace BK468 := bb_ BK468 hb; replace HB := bt_ HB hb; (try clear hb); obtain ⟨hcz17_0, hcz17_1, hcz17_2, hcz17_3, hfz17_0, hfz17_1, hfz17_2, hfz17_3⟩ := ch4_ BK468))
 refine bodyPost_ret (results_cell_row rfl _ _ gb468 46 #[.int .i64 t475, .int .i64 t476, .int .i64 t477, .int .i64 t478] (0, 0) _ rfl (bp_ BK468).out Try.underlying46 rfl (by kernel_rfl)) rfl ?_
 exact ⟨by first | rfl | (simp [errW_none, errW_some] <;> rfl) | (simp only [← hji11]; first | rfl | (simp [errW_none, errW_some] <;> rfl)) | (simp [*, errW_none, errW_some] <;> rfl), (bw_ HB).out⟩
end Go.Proofs.Ytgoeelhiffbjlaa.QB
