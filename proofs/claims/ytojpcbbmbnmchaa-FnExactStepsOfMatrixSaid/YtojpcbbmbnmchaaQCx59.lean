-- Written by a program of this session out of Lean's own print of the loaded program; Lean checks it.
import Derived.Test.YtojpcbbmbnmchaaQCx4
import Derived.Test.YtojpcbbmbnmchaaQCx12
import Derived.Test.YtojpcbbmbnmchaaQCx28
namespace Go.Proofs.Ytojpcbbmbnmchaa.QC
open Go.RowKit Go.Proofs.YtojpcbbmbnmchaaW.PrintWords Go.Proofs.YtojpcbbmbnmchaaW.PrintLast Go.Proofs.YtojpcbbmbnmchaaW.PrintMore
attribute [local go_sem] isSome_setCell max2_int min2_int max_two min_two max_three min_three max_four min_four   -- for this text's walks alone
set_option linter.unusedVariables false
set_option linter.unusedSimpArgs false

/-! ### spec_l01Parent: function 105 -/
def spec_l01Parent.f (k : Nat) (a0 : Int) (a1_0 : Int) (a1_1 : Int) (a1_2 : Int) : Option (Int × Int × Int × Bool) := (spec_l01Power.f k a0 a1_2).bind fun t410 => ((spec_l01Of.f k a0 a1_1 t410 (wrap64 (a1_0 - 1))).bind fun bt411 => (some (bt411.1, bt411.2.1, bt411.2.2.1, bt411.2.2.2)))
def spec_l01Parent.T1 : Bool × List (List Nat × List Nat) := (true, [([], []), ([], []), ([1], [1]), ([], []), ([], []), ([4], [4]), ([3, 5], [3, 5]), ([], []), ([7], [7]), ([8], [8]), ([0, 2, 6, 9, 6], [0, 2, 6, 9]), ([10], [10]), ([11], [11]), ([11], [11]), ([], []), ([14, 12, 10, 0, 1, 2, 3, 4, 5, 6, 7, 8, 9, 10, 11, 12, 14], [12, 14]), ([13, 15, 0, 1, 2, 3, 4, 5, 6, 7, 8, 9, 10, 11, 12, 13, 14, 15], [13])])
def spec_l01Parent.B1 : List Nat := [0, 0, 2, 0, 0, 16, 56, 0, 128, 384, 1023, 2047, 4095, 4095, 0, 24575, 65535]
theorem spec_l01Parent.tab1 : rtab .any (opsOf Try.f105 1) = spec_l01Parent.T1 := by kernel_rfl
theorem spec_l01Parent.bits1 : waitsOk spec_l01Parent.T1.2 spec_l01Parent.B1 = true := by kernel_rfl
set_option maxHeartbeats 8000000 in
set_option maxRecDepth 100000 in
theorem spec_l01Parent.calls (k : Nat) (a0 : Int) (a1_0 : Int) (a1_1 : Int) (a1_2 : Int) (r1 : Int) (r2 : Int) (r3 : Int) (r4 : Bool) (w : World) (h : spec_l01Parent.f k a0 a1_0 a1_1 a1_2 = some (r1, r2, r3, r4)) :
  Calls Try.prog 105 #[.int .i64 a0, .agg #[.int .i64 a1_0, .int .i64 a1_1, .int .i64 a1_2]] w fun e w' => e = .returned (.tuple #[.agg #[.int .i64 r1, .int .i64 r2, .int .i64 r3], .bool r4]) ∧ Below w.heap.size w w' := by
 have hu28 := Try.underlying28
 have HB := Aside0.mk (Below.refl w.heap.size w)
 have H : ((spec_l01Power.f k a0 a1_2).bind fun t410 => ((spec_l01Of.f k a0 a1_1 t410 (wrap64 (a1_0 - 1))).bind fun bt411 => (some (bt411.1, bt411.2.1, bt411.2.2.1, bt411.2.2.2)))) = some (r1, r2, r3, r4) := h
 clear h
 replace H := Option.bind_eq_some_iff.mp H
 obtain ⟨t410, A30, H⟩ := H
 have A3 := Aside0.mk A30
 clear A30
 replace H := Option.bind_eq_some_iff.mp H
 obtain ⟨⟨t411, t412, t413, t414⟩, A40, H⟩ := H
 have A4 := Aside0.mk A40
 clear A40
 simp only [Option.some.injEq, Prod.mk.injEq] at H
 obtain ⟨rfl, rfl, rfl, rfl⟩ := H
 go_enter Try.func105, Try.ntmps105
 try go_wp2_with (first | ((with_reducible refine gate_dst (N := 3) rfl ?_); refine bx_ 3 #[.int .i64 a1_0, .int .i64 a1_1, .int .i64 a1_2] 28 ?_; intro gb408 hg w5 hbox hb; have BK408 := Aside0.mk (hbox); have GW408 := bs_ HB hg; have GE408 := bs_ HB hg; replace HB := bt_ HB hb; clear hb hbox hg) | ((with_reducible refine gate_dst (N := 4) rfl ?_); refine bx_ 4 #[.int .i64 0, .int .i64 0, .int .i64 0] 28 ?_; intro gb409 hg w6 hbox hb; have BK409 := Aside0.mk (hbox); have GW409 := bs_ HB hg; have GE409 := bs_ HB hg; have NB408_409 := bm_ BK408 hg; have NB409_408 := bn_ BK408 hg; replace BK408 := bb_ BK408 hb; replace HB := bt_ HB hb; clear hb hbox hg))
 replace BK408 := Aside0.mk (blk_drew BK408.out)
 replace BK409 := Aside0.mk (blk_drew BK409.out)
 replace HB := Aside0.mk (below_drew1 HB.out)
 refine start_ (n := 17) (S := fun w' => w'.cell? ⟨gb408, 0, none⟩ = some (.int .i64 a1_0) ∧ w'.cell? ⟨gb408, 1, none⟩ = some (.int .i64 a1_1) ∧ w'.cell? ⟨gb408, 2, none⟩ = some (.int .i64 a1_2)) (ds := []) #[false, false, false, false, false, false, false, false, false, false, false, false, false, false, false, false, false] (by kernel_rfl) rfl rfl ⟨(blk_cell BK408.out 0).trans rfl, (blk_cell BK408.out 1).trans rfl, (blk_cell BK408.out 2).trans rfl⟩ (fun hHeld => ?_); refine with_tabW spec_l01Parent.tab1 spec_l01Parent.bits1 (fun HT_ HW_ => ?_)
 generalize w6.drew = w7 at BK408 BK409 HB hHeld ⊢
 refine pu_ HT_ 0 (some 9) #[true, false, false, false, false, false, false, false, false, false, false, false, false, false, false, false, false] ?_
 refine pu_ HT_ 1 (some 10) #[true, true, false, false, false, false, false, false, false, false, false, false, false, false, false, false, false] ?_
 refine pu_ HT_ 3 (some 12) #[true, true, false, true, false, false, false, false, false, false, false, false, false, false, false, false, false] ?_
 refine pu_ HT_ 4 (some 13) #[true, true, false, true, true, false, false, false, false, false, false, false, false, false, false, false, false] ?_
 refine pu_ HT_ 7 (some 16) #[true, true, false, true, true, false, false, true, false, false, false, false, false, false, false, false, false] ?_
 refine ta_ HT_ HW_ 2 (some 11) #[true, true, true, true, true, false, false, true, false, false, false, false, false, false, false, false, false] hHeld ?_ (hy := by rintro w' ⟨s0, s1, s2⟩; go_simp; with_reducible rfl)
 refine ta_ HT_ HW_ 5 (some 14) #[true, true, true, true, true, true, false, true, false, false, false, false, false, false, false, false, false] hHeld ?_ (hy := by rintro w' ⟨s0, s1, s2⟩; go_simp; with_reducible rfl)
 refine ta_ HT_ HW_ 8 (some 17) #[true, true, true, true, true, true, false, true, true, false, false, false, false, false, false, false, false] hHeld ?_ (hy := by rintro w' ⟨s0, s1, s2⟩; go_simp; with_reducible rfl)
 refine pu_ HT_ 9 (some 18) #[true, true, true, true, true, true, false, true, true, true, false, false, false, false, false, false, false] ?_
 refine join_ (σ := Nat) 2 #[true, true, true, true, true, true, true, true, true, true, true, true, true, true, true, false, false] (fun s_ => [(15, .int .i64 t410), (19, .tuple #[.agg #[.int .i64 t411, .int .i64 t412, .int .i64 t413], .bool t414]), (6, .pointer (some ⟨s_, 0, none⟩)), (8, .tuple #[.agg #[.int .i64 t411, .int .i64 t412, .int .i64 t413], .bool t414]), (20, .agg #[.int .i64 t411, .int .i64 t412, .int .i64 t413]), (21, .bool t414)]) (fun s_ w' => (w'.cell? ⟨gb408, 0, none⟩ = some (.int .i64 a1_0) ∧ w'.cell? ⟨gb408, 1, none⟩ = some (.int .i64 a1_1) ∧ w'.cell? ⟨gb408, 2, none⟩ = some (.int .i64 a1_2)) ∧ (w'.heap[gb408]? = some (.cells #[.int .i64 a1_0, .int .i64 a1_1, .int .i64 a1_2] 28 (0, 0))) ∧ (w'.heap[gb409]? = some (.cells #[.int .i64 0, .int .i64 0, .int .i64 0] 28 (0, 0))) ∧ (w'.heap[s_]? = some (.cells #[.int .i64 0, .int .i64 0, .int .i64 0] 28 (0, 0))) ∧ (w.heap.size ≤ s_) ∧ (w.heap.size ≤ s_) ∧ (gb408 ≠ s_) ∧ (s_ ≠ gb408) ∧ (gb409 ≠ s_) ∧ (s_ ≠ gb409) ∧ (Below w.heap.size w w')) ?_ ?_
 rotate_left
 ·intro hCont
  refine two_ (i := 6) (j := 14) (Ni := some 15) (Nj := some 6) #[true, true, true, true, true, true, true, true, true, true, false, false, false, false, false, false, false] #[true, true, true, true, true, true, false, true, true, true, false, false, false, false, true, false, false] rfl rfl rfl rfl (two_of HT_.out (by kernel_rfl)) (by decide) (by decide) (fun K hK => ?_) (fun K hK => ?_)
  ·skip
   refine goes_ Try.func72 (by kernel_rfl) rfl #[.int .i64 a0, .int .i64 a1_2] (by rfl) rfl rfl (by (try simp only [List.map_toArray, List.map_cons, List.map_nil]); first | done | rfl | (simp only [List.length_drop, List.length_take]; rfl)) ?_
   with_reducible refine (spec_l01Power.calls k a0 a1_2 t410 _ A3.out).mono ?_
   rintro e w' ⟨rfl, ⟨nd, rfl⟩⟩
   refine ⟨_, rfl, ?_⟩
   refine hK.out _ _ ⟨(blk_cell BK408.out 0).trans rfl, (blk_cell BK408.out 1).trans rfl, (blk_cell BK408.out 2).trans rfl⟩ (fun hHeld => ?_)
   clear hK K
   refine norm_ (a' := ?_) ?_ ?_
   rotate_left
   ·show Act.put _ (some 15) _ = _
    simp only [Act.put, lstS, lstZ, lstC, i64_w, i32_w]
    rfl
   refine two_ (i := 10) (j := 14) (Ni := some 19) (Nj := some 6) #[true, true, true, true, true, true, true, true, true, true, true, false, false, false, false, false, false] #[true, true, true, true, true, true, true, true, true, true, false, false, false, false, true, false, false] rfl rfl rfl rfl (two_of HT_.out (by kernel_rfl)) (by decide) (by decide) (fun K hK => ?_) (fun K hK => ?_)
   ·skip
    refine goes_ Try.func74 (by kernel_rfl) rfl #[.int .i64 a0, .int .i64 a1_1, .int .i64 t410, .int .i64 (wrap64 (a1_0 - 1))] (by rfl) rfl rfl (by (try simp only [List.map_toArray, List.map_cons, List.map_nil]); first | done | rfl | (simp only [List.length_drop, List.length_take]; rfl)) ?_
    with_reducible refine (spec_l01Of.calls k a0 a1_1 t410 (wrap64 (a1_0 - 1)) t411 t412 t413 t414 _ A4.out).mono ?_
    rintro e w8 ⟨rfl, hb⟩
    refine ⟨_, rfl, ?_⟩
    replace BK408 := bb_ BK408 hb
    replace BK409 := bb_ BK409 hb
    replace HB := bt_ HB hb
    (try clear hb)
    (try clear hb2)
    (try clear hk)
    (try clear hi)
    refine hK.out _ _ ⟨(blk_cell BK408.out 0).trans rfl, (blk_cell BK408.out 1).trans rfl, (blk_cell BK408.out 2).trans rfl⟩ (fun hHeld => ?_)
    clear hK K
    refine norm_ (a' := ?_) ?_ ?_
    rotate_left
    ·show Act.put _ (some 19) _ = _
     simp only [Act.put, lstS, lstZ, lstC, i64_w, i32_w]
     rfl
    refine pu_ HT_ 11 (some 8) #[true, true, true, true, true, true, true, true, true, true, true, true, false, false, false, false, false] ?_
    refine pu_ HT_ 12 (some 20) #[true, true, true, true, true, true, true, true, true, true, true, true, true, false, false, false, false] ?_
    refine pu_ HT_ 13 (some 21) #[true, true, true, true, true, true, true, true, true, true, true, true, true, true, false, false, false] ?_
    refine one_ (i := 14) (N := some 6) #[true, true, true, true, true, true, true, true, true, true, true, true, true, true, true, false, false] rfl rfl (one_of HT_.out (by kernel_rfl)) (by decide) (fun K hK => ?_)
    refine box_step ?hg (N := 6) ?hd (cs := #[.int .i64 0, .int .i64 0, .int .i64 0]) (t := 28) ?hr ?_; (case hd => rfl); (case hg => rfl); (case hr => first | (go_simp; done) | (go_simp; rfl))
    intro gb415 hg w9 hbox hb
    have BK415 := Aside0.mk (hbox)
    have GW415 := bs_ HB hg
    have GE415 := bs_ HB hg
    have NB408_415 := bm_ BK408 hg
    have NB415_408 := bn_ BK408 hg
    have NB409_415 := bm_ BK409 hg
    have NB415_409 := bn_ BK409 hg
    replace BK408 := bb_ BK408 hb
    replace BK409 := bb_ BK409 hb
    replace HB := bt_ HB hb
    clear hb hbox hg
    refine hK.out _ _ ⟨(blk_cell BK408.out 0).trans rfl, (blk_cell BK408.out 1).trans rfl, (blk_cell BK408.out 2).trans rfl⟩ (fun hHeld => ?_)
    clear hK K
    refine norm_ (a' := ?_) ?_ ?_
    rotate_left
    ·show Act.put _ (some 6) _ = _
     simp only [Act.put, lstS, lstZ, lstC, i64_w, i32_w]
     rfl
    exact norm_ (by simp only [putAll, Act.put, lstS, lstZ, lstC]) (hCont (gb415) _ ⟨hHeld, (bl_ BK408).out, (bl_ BK409).out, (bl_ BK415).out, GW415.out, GE415.out, NB408_415.out, NB415_408.out, NB409_415.out, NB415_409.out, (bw_ HB).out⟩)
   ·skip
    refine box_step ?hg (N := 6) ?hd (cs := #[.int .i64 0, .int .i64 0, .int .i64 0]) (t := 28) ?hr ?_; (case hd => rfl); (case hg => rfl); (case hr => first | (go_simp; done) | (go_simp; rfl))
    intro gb415 hg w8 hbox hb
    have BK415 := Aside0.mk (hbox)
    have GW415 := bs_ HB hg
    have GE415 := bs_ HB hg
    have NB408_415 := bm_ BK408 hg
    have NB415_408 := bn_ BK408 hg
    have NB409_415 := bm_ BK409 hg
    have NB415_409 := bn_ BK409 hg
    replace BK408 := bb_ BK408 hb
    replace BK409 := bb_ BK409 hb
    replace HB := bt_ HB hb
    clear hb hbox hg
    refine hK.out _ _ ⟨(blk_cell BK408.out 0).trans rfl, (blk_cell BK408.out 1).trans rfl, (blk_cell BK408.out 2).trans rfl⟩ (fun hHeld => ?_)
    clear hK K
    refine norm_ (a' := ?_) ?_ ?_
    rotate_left
    ·show Act.put _ (some 6) _ = _
     simp only [Act.put, lstS, lstZ, lstC, i64_w, i32_w]
     rfl
    refine one_ (i := 10) (N := some 19) #[true, true, true, true, true, true, true, true, true, true, true, false, false, false, true, false, false] rfl rfl (one_of HT_.out (by kernel_rfl)) (by decide) (fun K hK => ?_)
    refine goes_ Try.func74 (by kernel_rfl) rfl #[.int .i64 a0, .int .i64 a1_1, .int .i64 t410, .int .i64 (wrap64 (a1_0 - 1))] (by rfl) rfl rfl (by (try simp only [List.map_toArray, List.map_cons, List.map_nil]); first | done | rfl | (simp only [List.length_drop, List.length_take]; rfl)) ?_
    with_reducible refine (spec_l01Of.calls k a0 a1_1 t410 (wrap64 (a1_0 - 1)) t411 t412 t413 t414 _ A4.out).mono ?_
    rintro e w9 ⟨rfl, hb⟩
    refine ⟨_, rfl, ?_⟩
    replace BK408 := bb_ BK408 hb
    replace BK409 := bb_ BK409 hb
    replace BK415 := bb_ BK415 hb
    replace HB := bt_ HB hb
    (try clear hb)
    (try clear hb2)
    (try clear hk)
    (try clear hi)
    refine hK.out _ _ ⟨(blk_cell BK408.out 0).trans rfl, (blk_cell BK408.out 1).trans rfl, (blk_cell BK408.out 2).trans rfl⟩ (fun hHeld => ?_)
    clear hK K
    refine norm_ (a' := ?_) ?_ ?_
    rotate_left
    ·show Act.put _ (some 19) _ = _
     simp only [Act.put, lstS, lstZ, lstC, i64_w, i32_w]
     rfl
    refine pu_ HT_ 11 (some 8) #[true, true, true, true, true, true, true, true, true, true, true, true, false, false, true, false, false] ?_
    refine pu_ HT_ 12 (some 20) #[true, true, true, true, true, true, true, true, true, true, true, true, true, false, true, false, false] ?_
    refine pu_ HT_ 13 (some 21) #[true, true, true, true, true, true, true, true, true, true, true, true, true, true, true, false, false] ?_
    exact norm_ (by simp only [putAll, Act.put, lstS, lstZ, lstC]) (hCont (gb415) _ ⟨hHeld, (bl_ BK408).out, (bl_ BK409).out, (bl_ BK415).out, GW415.out, GE415.out, NB408_415.out, NB415_408.out, NB409_415.out, NB415_409.out, (bw_ HB).out⟩)
  ·skip
   refine box_step ?hg (N := 6) ?hd (cs := #[.int .i64 0, .int .i64 0, .int .i64 0]) (t := 28) ?hr ?_; (case hd => rfl); (case hg => rfl); (case hr => first | (go_simp; done) | (go_simp; rfl))
   intro gb415 hg w8 hbox hb
   have BK415 := Aside0.mk (hbox)
   have GW415 := bs_ HB hg
   have GE415 := bs_ HB hg
   have NB408_415 := bm_ BK408 hg
   have NB415_408 := bn_ BK408 hg
   have NB409_415 := bm_ BK409 hg
   have NB415_409 := bn_ BK409 hg
   replace BK408 := bb_ BK408 hb
   replace BK409 := bb_ BK409 hb
   replace HB := bt_ HB hb
   clear hb hbox hg
   refine hK.out _ _ ⟨(blk_cell BK408.out 0).trans rfl, (blk_cell BK408.out 1).trans rfl, (blk_cell BK408.out 2).trans rfl⟩ (fun hHeld => ?_)
   clear hK K
   refine norm_ (a' := ?_) ?_ ?_
   rotate_left
   ·show Act.put _ (some 6) _ = _
    simp only [Act.put, lstS, lstZ, lstC, i64_w, i32_w]
    rfl
   refine one_ (i := 6) (N := some 15) #[true, true, true, true, true, true, true, true, true, true, false, false, false, false, true, false, false] rfl rfl (one_of HT_.out (by kernel_rfl)) (by decide) (fun K hK => ?_)
   refine goes_ Try.func72 (by kernel_rfl) rfl #[.int .i64 a0, .int .i64 a1_2] (by rfl) rfl rfl (by (try simp only [List.map_toArray, List.map_cons, List.map_nil]); first | done | rfl | (simp only [List.length_drop, List.length_take]; rfl)) ?_
   with_reducible refine (spec_l01Power.calls k a0 a1_2 t410 _ A3.out).mono ?_
   rintro e w' ⟨rfl, ⟨nd, rfl⟩⟩
   refine ⟨_, rfl, ?_⟩
   refine hK.out _ _ ⟨(blk_cell BK408.out 0).trans rfl, (blk_cell BK408.out 1).trans rfl, (blk_cell BK408.out 2).trans rfl⟩ (fun hHeld => ?_)
   clear hK K
   refine norm_ (a' := ?_) ?_ ?_
   rotate_left
   ·show Act.put _ (some 15) _ = _
    simp only [Act.put, lstS, lstZ, lstC, i64_w, i32_w]
    rfl
   refine one_ (i := 10) (N := some 19) #[true, true, true, true, true, true, true, true, true, true, true, false, false, false, true, false, false] rfl rfl (one_of HT_.out (by kernel_rfl)) (by decide) (fun K hK => ?_)
   refine goes_ Try.func74 (by kernel_rfl) rfl #[.int .i64 a0, .int .i64 a1_1, .int .i64 t410, .int .i64 (wrap64 (a1_0 - 1))] (by rfl) rfl rfl (by (try simp only [List.map_toArray, List.map_cons, List.map_nil]); first | done | rfl | (simp only [List.length_drop, List.length_take]; rfl)) ?_
   with_reducible refine (spec_l01Of.calls k a0 a1_1 t410 (wrap64 (a1_0 - 1)) t411 t412 t413 t414 _ A4.out).mono ?_
   rintro e w9 ⟨rfl, hb⟩
   refine ⟨_, rfl, ?_⟩
   replace BK408 := bb_ BK408 hb
   replace BK409 := bb_ BK409 hb
   replace BK415 := bb_ BK415 hb
   replace HB := bt_ HB hb
   (try clear hb)
   (try clear hb2)
   (try clear hk)
   (try clear hi)
   refine hK.out _ _ ⟨(blk_cell BK408.out 0).trans rfl, (blk_cell BK408.out 1).trans rfl, (blk_cell BK408.out 2).trans rfl⟩ (fun hHeld => ?_)
   clear hK K
   refine norm_ (a' := ?_) ?_ ?_
   rotate_left
   ·show Act.put _ (some 19) _ = _
    simp only [Act.put, lstS, lstZ, lstC, i64_w, i32_w]
    rfl
   refine pu_ HT_ 11 (some 8) #[true, true, true, true, true, true, true, true, true, true, true, true, false, false, true, false, false] ?_
   refine pu_ HT_ 12 (some 20) #[true, true, true, true, true, true, true, true, true, true, true, true, true, false, true, false, false] ?_
   refine pu_ HT_ 13 (some 21) #[true, true, true, true, true, true, true, true, true, true, true, true, true, true, true, false, false] ?_
   exact norm_ (by simp only [putAll, Act.put, lstS, lstZ, lstC]) (hCont (gb415) _ ⟨hHeld, (bl_ BK408).out, (bl_ BK409).out, (bl_ BK415).out, GW415.out, GE415.out, NB408_415.out, NB415_408.out, NB409_415.out, NB415_409.out, (bw_ HB).out⟩)
 rintro gb415 w10 ⟨hS_, h0_, h1_, h2_, h3_, h4_, h5_, h6_, h7_, h8_, h9_⟩
 have n0_ : Aside0 (w10.heap[gb408]? = some (.cells #[.int .i64 a1_0, .int .i64 a1_1, .int .i64 a1_2] 28 (0, 0))) := ⟨h0_⟩
 have n1_ : Aside0 (w10.heap[gb409]? = some (.cells #[.int .i64 0, .int .i64 0, .int .i64 0] 28 (0, 0))) := ⟨h1_⟩
 have n2_ : Aside0 (w10.heap[gb415]? = some (.cells #[.int .i64 0, .int .i64 0, .int .i64 0] 28 (0, 0))) := ⟨h2_⟩
 have n3_ : Aside0 (w.heap.size ≤ gb415) := ⟨h3_⟩
 have n4_ : Aside0 (w.heap.size ≤ gb415) := ⟨h4_⟩
 have n5_ : Aside0 (gb408 ≠ gb415) := ⟨h5_⟩
 have n6_ : Aside0 (gb415 ≠ gb408) := ⟨h6_⟩
 have n7_ : Aside0 (gb409 ≠ gb415) := ⟨h7_⟩
 have n8_ : Aside0 (gb415 ≠ gb409) := ⟨h8_⟩
 have n9_ : Aside0 (Below w.heap.size w w10) := ⟨h9_⟩
 clear BK408
 clear BK409
 clear HB
 clear h0_ h1_ h2_ h3_ h4_ h5_ h6_ h7_ h8_ h9_
 have BK408 := n0_
 have BK409 := n1_
 have BK415 := n2_
 have GW415 := n3_
 have GE415 := n4_
 have NB408_415 := n5_
 have NB415_408 := n6_
 have NB409_415 := n7_
 have NB415_409 := n8_
 have HB := n9_
 clear n0_ n1_ n2_ n3_ n4_ n5_ n6_ n7_ n8_ n9_
 have hHeld : w10.cell? ⟨gb408, 0, none⟩ = some (.int .i64 a1_0) ∧ w10.cell? ⟨gb408, 1, none⟩ = some (.int .i64 a1_1) ∧ w10.cell? ⟨gb408, 2, none⟩ = some (.int .i64 a1_2) := hS_
 refine norm_ (a' := ?_) ?_ ?_
 rotate_left
 ·simp only [putAll, Act.put, lstS, lstZ, lstC]
  rfl
 refine one_ (i := 15) (N := none) #[true, true, true, true, true, true, true, true, true, true, true, true, true, true, true, true, false] rfl rfl (one_of HT_.out (by kernel_rfl)) (by decide) (fun K hK => ?_)
 have hs11 : w10.cell? ⟨gb415, 0, none⟩ = some (.int .i64 0) := (blk_cell BK415.out 0).trans rfl
 have hfs11 := blk_frozen BK415.out 0
 have hns11_0 := NB408_415.out
 have hns11_1 := NB409_415.out
 have hms11_0 := NB415_408.out
 have hms11_1 := NB415_409.out
 have hs12 : w10.cell? ⟨gb415, 1, none⟩ = some (.int .i64 0) := (blk_cell BK415.out 1).trans rfl
 have hfs12 := blk_frozen BK415.out 1
 have hns12_0 := NB408_415.out
 have hns12_1 := NB409_415.out
 have hms12_0 := NB415_408.out
 have hms12_1 := NB415_409.out
 have hs13 : w10.cell? ⟨gb415, 2, none⟩ = some (.int .i64 0) := (blk_cell BK415.out 2).trans rfl
 have hfs13 := blk_frozen BK415.out 2
 have hns13_0 := NB408_415.out
 have hns13_1 := NB409_415.out
 have hms13_0 := NB415_408.out
 have hms13_1 := NB415_409.out
 refine skip_ (w1 := ?_) (by rfl) rfl ?_ ?_
 rotate_left
 ·go_simp
  rfl
 refine hK.out _ _ ⟨((cell_far (p := ⟨gb415, _, none⟩) NB408_415.out _).trans (((cell_far (p := ⟨gb415, _, none⟩) NB408_415.out _).trans (((cell_far (p := ⟨gb415, _, none⟩) NB408_415.out _).trans (hHeld.1)))))), ((cell_far (p := ⟨gb415, _, none⟩) NB408_415.out _).trans (((cell_far (p := ⟨gb415, _, none⟩) NB408_415.out _).trans (((cell_far (p := ⟨gb415, _, none⟩) NB408_415.out _).trans (hHeld.2.1)))))), ((cell_far (p := ⟨gb415, _, none⟩) NB408_415.out _).trans (((cell_far (p := ⟨gb415, _, none⟩) NB408_415.out _).trans (((cell_far (p := ⟨gb415, _, none⟩) NB408_415.out _).trans (hHeld.2.2))))))⟩ (fun hHeld => ?_)
 clear hK K
 refine pu_ HT_ 16 (some 7) #[true, true, true, true, true, true, true, true, true, true, true, true, true, true, true, true, true] ?_
 refine done_ (done_of HT_.out (by kernel_rfl)) ?_
 have hnb14 := NB415_408.out
 have hnc14 := NB408_415.out
 have hnb15 := NB415_409.out
 have hnc15 := NB409_415.out
 have hcz16_0 : w10.cell? ⟨gb415, 0, none⟩ = some (.int .i64 0) := (blk_cell BK415.out 0).trans rfl
 have hcz16_1 : w10.cell? ⟨gb415, 1, none⟩ = some (.int .i64 0) := (blk_cell BK415.out 1).trans rfl
 have hcz16_2 : w10.cell? ⟨gb415, 2, none⟩ = some (.int .i64 0) := (blk_cell BK415.out 2).trans rfl
 have hfz16_0 := blk_frozen BK415.out 0
 have hfz16_1 := blk_frozen BK415.out 1
 have hfz16_2 := blk_frozen BK415.out 2
 have hnb17 := NB409_408.out
 have hnc17 := NB408_409.out
 have hcz18_0 : w10.cell? ⟨gb409, 0, none⟩ = some (.int .i64 0) := (blk_cell BK409.out 0).trans rfl
 have hcz18_1 : w10.cell? ⟨gb409, 1, none⟩ = some (.int .i64 0) := (blk_cell BK409.out 1).trans rfl
 have hcz18_2 : w10.cell? ⟨gb409, 2, none⟩ = some (.int .i64 0) := (blk_cell BK409.out 2).trans rfl
 have hfz18_0 := blk_frozen BK409.out 0
 have hfz18_1 := blk_frozen BK409.out 1
 have hfz18_2 := blk_frozen BK409.out 2
 try go_wp2
 refine bodyPost_ret (results_ct rfl _ _ gb409 28 #[.int .i64 t411, .int .i64 t412, .int .i64 t413] (0, 0) _ rfl (by (with_reducible repeat first | apply blk_drewN | apply blk_drew | apply blk_alloc); refine blk_put (cs := #[.int .i64 t411, .int .i64 t412, .int .i64 0]) ?_ 2 _ rfl; (with_reducible repeat first | apply blk_drewN | apply blk_drew | apply blk_alloc); refine blk_put (cs := #[.int .i64 t411, .int .i64 0, .int .i64 0]) ?_ 1 _ rfl; (with_reducible repeat first | apply blk_drewN | apply blk_drew | apply blk_alloc); refine blk_put (cs := #[.int .i64 0, .int .i64 0, .int .i64 0]) ?_ 0 _ rfl; (with_reducible repeat first | apply blk_drewN | apply blk_drew | apply blk_alloc); refine blk_far ?_ NB409_415.out _; (with_reducible repeat first | apply blk_drewN | apply blk_drew | apply blk_alloc); refine blk_far ?_ NB409_415.out _; (with_reducible repeat first | apply blk_drewN | apply blk_drew | apply blk_alloc); refine blk_far ?_ NB409_415.out _; (with_reducible repeat first | apply blk_drewN | apply blk_drew | apply blk_alloc); exact BK409.out) Try.underlying28 rfl (by kernel_rfl)) rfl ?_
 exact ⟨by first | rfl | (simp [errW_none, errW_some] <;> rfl) | (simp [*, errW_none, errW_some] <;> rfl), by repeat (first | (with_reducible first | exact HB.out | apply below_alloc | apply pw_below_drewN | apply below_drew1 | refine below_set ?_ GE408.out | refine below_set ?_ GE409.out | refine below_set ?_ GE415.out) | exact HB.out)⟩
end Go.Proofs.Ytojpcbbmbnmchaa.QC
