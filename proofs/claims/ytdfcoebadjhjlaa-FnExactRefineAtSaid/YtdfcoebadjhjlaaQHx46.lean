import Derived.Test.YtdfcoebadjhjlaaQHx7
import Derived.Test.YtdfcoebadjhjlaaQHx44
namespace Go.Proofs.Ytdfcoebadjhjlaa.QH
set_option maxHeartbeats 8000000
set_option maxRecDepth 100000
open Go.RowKit Go.Proofs.YtdfcoebadjhjlaaW.PrintWords Go.Proofs.YtdfcoebadjhjlaaW.PrintLast Go.Proofs.YtdfcoebadjhjlaaW.PrintMore
attribute [local go_sem] isSome_setCell max2_int min2_int max_two min_two max_three min_three max_four min_four
set_option linter.unusedVariables false
set_option linter.unusedSimpArgs false

/-! ### impl_holds: function 51 -/
def impl_holds.f (k : Nat) (a0 a1_0 a1_1 a1_2 a2_0 a2_1 a2_2 : Int) : Option (Bool) := if a1_0 ≤ a2_0 then ((impl_mark.f k a0 a2_0 a2_1 a2_2).bind fun t360 => ((impl_mark.f k a0 a1_0 a1_1 a1_2).bind fun t361 => ((impl_power.f k a0 (wrap64 (a1_0 + 6))).bind fun t362 => (if t362 = 0 then (none) else (some ((Int.tmod (wrap64 (t360 - t361)) t362) == 0)))))) else (some false)
def impl_holds.T1 : Bool × List (List Nat × List Nat) := (true, [([], []), ([0], [0]), ([], []), ([2], [2]), ([1, 3], [1, 3]), ([4], [4]), ([5], [5]), ([5], [5]), ([6, 7, 5, 5], [5, 6, 7]), ([5], [5]), ([5], [5]), ([9, 10, 8, 5], [5, 9, 10]), ([8, 11, 5], [5, 8, 11]), ([5], [5]), ([5], [5]), ([14, 5], [5, 14]), ([15, 5], [5, 15]), ([13, 16, 11, 5], [5, 13, 16]), ([12, 17, 5], [5, 12, 17]), ([18, 5], [5, 18]), ([5, 19], [5, 19]), ([20, 17, 0, 1, 2, 3, 4, 5, 6, 7, 8, 9, 10, 11, 12, 13, 14, 15, 16, 17, 18, 19, 20], [20])])
def impl_holds.B1 : List Nat := [0, 1, 0, 4, 15, 31, 63, 63, 255, 63, 63, 2047, 4095, 63, 63, 16447, 49215, 126975, 262143, 524287, 1048575, 2097151]
theorem impl_holds.tab1 : rtab .any (opsOf Try.f51 1) = impl_holds.T1 := by kernel_rfl
theorem impl_holds.bits1 : waitsOk impl_holds.T1.2 impl_holds.B1 = true := by kernel_rfl
theorem impl_holds.calls (k : Nat) (a0 a1_0 a1_1 a1_2 a2_0 a2_1 a2_2 : Int) (r : Bool) (w : World) (h : impl_holds.f k a0 a1_0 a1_1 a1_2 a2_0 a2_1 a2_2 = some r) :
  Calls Try.prog 51 #[.int .i64 a0, .agg #[.int .i64 a1_0, .int .i64 a1_1, .int .i64 a1_2], .agg #[.int .i64 a2_0, .int .i64 a2_1, .int .i64 a2_2]] w fun e w' => e = .returned (.bool r) ∧ Below w.heap.size w w' := by
 have hu31 := Try.underlying31
 have HB := Aside0.mk (Below.refl w.heap.size w)
 unfold impl_holds.f at h
 have H := h
 clear h
 replace H := im_ H
 rcases H with ⟨c4b0, H⟩ | ⟨c4b0, H⟩
 ·replace H := oc_ H
  obtain ⟨t360, A5, H⟩ := H
  replace H := oc_ H
  obtain ⟨t361, A6, H⟩ := H
  replace H := oc_ H
  obtain ⟨t362, A7, H⟩ := H
  replace H := ief_ H
  obtain ⟨c8, c8b0, c8b1, H⟩ := H
  obtain rfl := si_ H
  go_enter Try.func51, Try.ntmps51
  try go_wp2_with (first | ((refine gd_ 4 ?_); refine by_ 4 #[.int .i64 a1_0, .int .i64 a1_1, .int .i64 a1_2] 31 HB ?_; intro gb358 hg w9 BK358 hb GW358 HB_; replace HB := HB_; clear hb hg) | ((refine gd_ 5 ?_); refine by_ 5 #[.int .i64 a2_0, .int .i64 a2_1, .int .i64 a2_2] 31 HB ?_; intro gb359 hg w10 BK359 hb GW359 HB_; have NB358_359 := bm_ BK358 hg; have NB359_358 := bn_ BK358 hg; replace BK358 := bb_ BK358 hb; replace HB := HB_; clear hb hg))
  replace BK358 := bd_ BK358
  replace BK359 := bd_ BK359
  replace HB := be_ HB
  refine start_ (n := 22) (S := fun w' => w'.cell? ⟨gb358, 0, none⟩ = some (.int .i64 a1_0) ∧ w'.cell? ⟨gb358, 1, none⟩ = some (.int .i64 a1_1) ∧ w'.cell? ⟨gb358, 2, none⟩ = some (.int .i64 a1_2) ∧ w'.cell? ⟨gb359, 0, none⟩ = some (.int .i64 a2_0) ∧ w'.cell? ⟨gb359, 1, none⟩ = some (.int .i64 a2_1) ∧ w'.cell? ⟨gb359, 2, none⟩ = some (.int .i64 a2_2)) (ds := []) (bv_ 22 0) (by kernel_rfl) rfl rfl ⟨cz_ BK358 0, cz_ BK358 1, cz_ BK358 2, cz_ BK359 0, cz_ BK359 1, cz_ BK359 2⟩ (fun hHeld => ?_); refine with_tabW impl_holds.tab1 impl_holds.bits1 (fun HT_ HW_ => ?_)
  generalize w10.drew = w11 at BK358 BK359 HB hHeld ⊢
  refine px_ HT_ 0 7 1 ?_
  refine px_ HT_ 2 9 5 ?_
  refine ta_ HT_ HW_ 1 (some 8) (bv_ 22 7) hHeld ?_ (hy := by rintro w' ⟨s0, s1, s2, s3, s4, s5⟩; go_simp; with_reducible rfl)
  refine ta_ HT_ HW_ 3 (some 10) (bv_ 22 15) hHeld ?_ (hy := by rintro w' ⟨s0, s1, s2, s3, s4, s5⟩; go_simp; with_reducible rfl)
  refine px_ HT_ 4 11 31 ?_
  refine px_ HT_ 5 12 63 ?_
  refine px_ HT_ 6 13 127 ?_
  refine px_ HT_ 9 16 639 ?_
  refine px_ HT_ 13 20 8831 ?_
  refine px_ HT_ 14 21 25215 ?_
  refine ta_ HT_ HW_ 7 (some 14) (bv_ 22 25343) hHeld ?_ (hy := by rintro w' ⟨s0, s1, s2, s3, s4, s5⟩; go_simp; with_reducible rfl)
  refine ta_ HT_ HW_ 10 (some 17) (bv_ 22 26367) hHeld ?_ (hy := by rintro w' ⟨s0, s1, s2, s3, s4, s5⟩; go_simp; with_reducible rfl)
  refine ta_ HT_ HW_ 15 (some 22) (bv_ 22 59135) hHeld ?_ (hy := by rintro w' ⟨s0, s1, s2, s3, s4, s5⟩; go_simp; with_reducible rfl)
  refine px_ HT_ 16 23 124671 ?_
  refine on_ HT_ 8 (some 15) (bv_ 22 124927) (fun K hK => ?_)
  refine gs_ Try.func80 #[.int .i64 a0, .agg #[.int .i64 a2_0, .int .i64 a2_1, .int .i64 a2_2]] ?_
  with_reducible refine (impl_mark.calls k a0 a2_0 a2_1 a2_2 t360 _ A5.out).mono ?_
  rintro e w12 ⟨rfl, hb⟩
  refine ⟨_, rfl, ?_⟩
  replace BK358 := bb_ BK358 hb
  replace BK359 := bb_ BK359 hb
  replace HB := bt_ HB hb
  try clear hb
  refine hK.out _ _ ⟨cz_ BK358 0, cz_ BK358 1, cz_ BK358 2, cz_ BK359 0, cz_ BK359 1, cz_ BK359 2⟩ (fun hHeld => ?_)
  clear hK K
  refine nm_ (some 15) ?_
  refine on_ HT_ 11 (some 18) (bv_ 22 126975) (fun K hK => ?_)
  refine gs_ Try.func80 #[.int .i64 a0, .agg #[.int .i64 a1_0, .int .i64 a1_1, .int .i64 a1_2]] ?_
  with_reducible refine (impl_mark.calls k a0 a1_0 a1_1 a1_2 t361 _ A6.out).mono ?_
  rintro e w13 ⟨rfl, hb⟩
  refine ⟨_, rfl, ?_⟩
  replace BK358 := bb_ BK358 hb
  replace BK359 := bb_ BK359 hb
  replace HB := bt_ HB hb
  try clear hb
  refine hK.out _ _ ⟨cz_ BK358 0, cz_ BK358 1, cz_ BK358 2, cz_ BK359 0, cz_ BK359 1, cz_ BK359 2⟩ (fun hHeld => ?_)
  clear hK K
  refine nm_ (some 18) ?_
  refine px_ HT_ 12 19 131071 ?_
  refine on_ HT_ 17 (some 24) (bv_ 22 262143) (fun K hK => ?_)
  refine gs_ Try.func81 #[.int .i64 a0, .int .i64 (wrap64 (a1_0 + 6))] ?_
  with_reducible refine (impl_power.calls k a0 (wrap64 (a1_0 + 6)) t362 _ A7.out).mono ?_
  rintro e w' ⟨rfl, ⟨nd, rfl⟩⟩
  refine ⟨_, rfl, ?_⟩
  refine hK.out _ _ ⟨cz_ BK358 0, cz_ BK358 1, cz_ BK358 2, cz_ BK359 0, cz_ BK359 1, cz_ BK359 2⟩ (fun hHeld => ?_)
  clear hK K
  refine nm_ (some 24) ?_
  refine px_ HT_ 18 25 524287 ?_
  refine px_ HT_ 19 26 1048575 ?_
  refine px_ HT_ 20 27 2097151 ?_
  refine px_ HT_ 21 6 4194303 ?_
  refine done_ (done_of HT_.out (by kernel_rfl)) ?_
  try go_wp2
  go_ret
  exact ⟨es_, (bw_ HB).out⟩
 obtain rfl := si_ H
 go_enter Try.func51, Try.ntmps51
 try go_wp2_with (first | ((refine gd_ 4 ?_); refine by_ 4 #[.int .i64 a1_0, .int .i64 a1_1, .int .i64 a1_2] 31 HB ?_; intro gb358 hg w14 BK358 hb GW358 HB_; replace HB := HB_; clear hb hg) | ((refine gd_ 5 ?_); refine by_ 5 #[.int .i64 a2_0, .int .i64 a2_1, .int .i64 a2_2] 31 HB ?_; intro gb359 hg w15 BK359 hb GW359 HB_; have NB358_359 := bm_ BK358 hg; have NB359_358 := bn_ BK358 hg; replace BK358 := bb_ BK358 hb; replace HB := HB_; clear hb hg))
 replace BK358 := bd_ BK358
 replace BK359 := bd_ BK359
 replace HB := be_ HB
 refine start_ (n := 22) (S := fun w' => w'.cell? ⟨gb358, 0, none⟩ = some (.int .i64 a1_0) ∧ w'.cell? ⟨gb358, 1, none⟩ = some (.int .i64 a1_1) ∧ w'.cell? ⟨gb358, 2, none⟩ = some (.int .i64 a1_2) ∧ w'.cell? ⟨gb359, 0, none⟩ = some (.int .i64 a2_0) ∧ w'.cell? ⟨gb359, 1, none⟩ = some (.int .i64 a2_1) ∧ w'.cell? ⟨gb359, 2, none⟩ = some (.int .i64 a2_2)) (ds := []) (bv_ 22 0) (by kernel_rfl) rfl rfl ⟨cz_ BK358 0, cz_ BK358 1, cz_ BK358 2, cz_ BK359 0, cz_ BK359 1, cz_ BK359 2⟩ (fun hHeld => ?_); refine with_tabW impl_holds.tab1 impl_holds.bits1 (fun HT_ HW_ => ?_)
 generalize w15.drew = w16 at BK358 BK359 HB hHeld ⊢
 refine px_ HT_ 0 7 1 ?_
 refine px_ HT_ 2 9 5 ?_
 refine ta_ HT_ HW_ 1 (some 8) (bv_ 22 7) hHeld ?_ (hy := by rintro w' ⟨s0, s1, s2, s3, s4, s5⟩; go_simp; with_reducible rfl)
 refine ta_ HT_ HW_ 3 (some 10) (bv_ 22 15) hHeld ?_ (hy := by rintro w' ⟨s0, s1, s2, s3, s4, s5⟩; go_simp; with_reducible rfl)
 refine px_ HT_ 4 11 31 ?_
 refine px_ HT_ 5 12 63 ?_
 refine pv_ HT_ 6 (some 13) (bv_ 22 127) ?_
 refine pv_ HT_ 7 (some 14) (bv_ 22 255) ?_
 refine pv_ HT_ 8 (some 15) (bv_ 22 511) ?_
 refine pv_ HT_ 9 (some 16) (bv_ 22 1023) ?_
 refine pv_ HT_ 10 (some 17) (bv_ 22 2047) ?_
 refine pv_ HT_ 11 (some 18) (bv_ 22 4095) ?_
 refine pv_ HT_ 12 (some 19) (bv_ 22 8191) ?_
 refine pv_ HT_ 13 (some 20) (bv_ 22 16383) ?_
 refine pv_ HT_ 14 (some 21) (bv_ 22 32767) ?_
 refine pv_ HT_ 15 (some 22) (bv_ 22 65535) ?_
 refine pv_ HT_ 16 (some 23) (bv_ 22 131071) ?_
 refine pv_ HT_ 17 (some 24) (bv_ 22 262143) ?_
 refine pv_ HT_ 18 (some 25) (bv_ 22 524287) ?_
 refine pv_ HT_ 19 (some 26) (bv_ 22 1048575) ?_
 refine px_ HT_ 20 27 2097151 ?_
 refine px_ HT_ 21 6 4194303 ?_
 refine done_ (done_of HT_.out (by kernel_rfl)) ?_
 try go_wp2
 go_ret
 exact ⟨es_, (bw_ HB).out⟩
/-! ### impl_apart: function 92 -/
def impl_apart.f (k : Nat) (a0 a1_0 a1_1 a1_2 a2_0 a2_1 a2_2 : Int) : Option (Bool) := (impl_holds.f k a0 a1_0 a1_1 a1_2 a2_0 a2_1 a2_2).bind fun t365 => (if t365 = true then (some false) else ((impl_holds.f k a0 a2_0 a2_1 a2_2 a1_0 a1_1 a1_2).bind fun t366 => (some (!t366))))
theorem impl_apart.calls (k : Nat) (a0 a1_0 a1_1 a1_2 a2_0 a2_1 a2_2 : Int) (r : Bool) (w : World) (h : impl_apart.f k a0 a1_0 a1_1 a1_2 a2_0 a2_1 a2_2 = some r) :
  Calls Try.prog 92 #[.int .i64 a0, .agg #[.int .i64 a1_0, .int .i64 a1_1, .int .i64 a1_2], .agg #[.int .i64 a2_0, .int .i64 a2_1, .int .i64 a2_2]] w fun e w' => e = .returned (.bool r) ∧ Below w.heap.size w w' := by
 have hu31 := Try.underlying31
 have HB := Aside0.mk (Below.refl w.heap.size w)
 unfold impl_apart.f at h
 have H := h
 clear h
 replace H := oc_ H
 obtain ⟨t365, A4, H⟩ := H
 replace H := ib_ H
 rcases H with ⟨rfl, H⟩ | ⟨rfl, H⟩
 ·obtain rfl := si_ H
  go_enter Try.func92, Try.ntmps92
  go_wp2_with (first | ((refine gd_ 4 ?_); refine by_ 4 #[.int .i64 a1_0, .int .i64 a1_1, .int .i64 a1_2] 31 HB ?_; intro gb363 hg w6 BK363 hb GW363 HB_; replace HB := HB_; clear hb hg) | ((refine gd_ 5 ?_); refine by_ 5 #[.int .i64 a2_0, .int .i64 a2_1, .int .i64 a2_2] 31 HB ?_; intro gb364 hg w7 BK364 hb GW364 HB_; have NB363_364 := bm_ BK363 hg; have NB364_363 := bn_ BK363 hg; replace BK363 := bb_ BK363 hb; replace HB := HB_; clear hb hg; have hnb8 := NB363_364.out; have hnc8 := NB364_363.out; obtain ⟨hcz9_0, hcz9_1, hcz9_2, hfz9_0, hfz9_1, hfz9_2⟩ := ch3_ BK363; obtain ⟨hcz10_0, hcz10_1, hcz10_2, hfz10_0, hfz10_1, hfz10_2⟩ := ch3_ BK364) | ((refine gc_ 51 ?_); refine ge_ 10 Try.func51 #[.int .i64 a0, .agg #[.int .i64 a1_0, .int .i64 a1_1, .int .i64 a1_2], .agg #[.int .i64 a2_0, .int .i64 a2_1, .int .i64 a2_2]] ?_; (with_reducible refine (impl_holds.calls k a0 a1_0 a1_1 a1_2 a2_0 a2_1 a2_2 true _ A4.out).mono ?_); rintro e w11 ⟨rfl, hb⟩; refine ⟨_, rfl, ?_⟩; replace BK363 := bb_ BK363 hb; replace BK364 := bb_ BK364 hb; replace HB := bt_ HB hb; (try clear hb)))
  go_ret
  exact ⟨es_, (bw_ HB).out⟩
 replace H := oc_ H
 obtain ⟨t366, A12, H⟩ := H
 obtain rfl := si_ H
 go_enter Try.func92, Try.ntmps92
 go_wp2_with (first | ((refine gd_ 4 ?_); refine by_ 4 #[.int .i64 a1_0, .int .i64 a1_1, .int .i64 a1_2] 31 HB ?_; intro gb363 hg w13 BK363 hb GW363 HB_; replace HB := HB_; clear hb hg) | ((refine gd_ 5 ?_); refine by_ 5 #[.int .i64 a2_0, .int .i64 a2_1, .int .i64 a2_2] 31 HB ?_; intro gb364 hg w14 BK364 hb GW364 HB_; have NB363_364 := bm_ BK363 hg; have NB364_363 := bn_ BK363 hg; replace BK363 := bb_ BK363 hb; replace HB := HB_; clear hb hg; have hnb15 := NB363_364.out; have hnc15 := NB364_363.out; obtain ⟨hcz16_0, hcz16_1, hcz16_2, hfz16_0, hfz16_1, hfz16_2⟩ := ch3_ BK363; obtain ⟨hcz17_0, hcz17_1, hcz17_2, hfz17_0, hfz17_1, hfz17_2⟩ := ch3_ BK364) | ((refine gc_ 51 ?_); refine ge_ 10 Try.func51 #[.int .i64 a0, .agg #[.int .i64 a1_0, .int .i64 a1_1, .int .i64 a1_2], .agg #[.int .i64 a2_0, .int .i64 a2_1, .int .i64 a2_2]] ?_; (with_reducible refine (impl_holds.calls k a0 a1_0 a1_1 a1_2 a2_0 a2_1 a2_2 false _ A4.out).mono ?_); rintro e w18 ⟨rfl, hb⟩; refine ⟨_, rfl, ?_⟩; replace BK363 := bb_ BK363 hb; replace BK364 := bb_ BK364 hb; replace HB := bt_ HB hb; (try clear hb); obtain ⟨hcz19_0, hcz19_1, hcz19_2, hfz19_0, hfz19_1, hfz19_2⟩ := ch3_ BK364; obtain ⟨hcz20_0, hcz20_1, hcz20_2, hfz20_0, hfz20_1, hfz20_2⟩ := ch3_ BK363) | (go_at_call 51; (with_reducible refine (impl_holds.calls k a0 a2_0 a2_1 a2_2 a1_0 a1_1 a1_2 t366 _ A12.out).mono ?_); rintro e w21 ⟨rfl, hb⟩; replace BK363 := bb_ BK363 hb; replace BK364 := bb_ BK364 hb; replace HB := bt_ HB hb; (try clear hb)))
 go_ret
 exact ⟨es_, (bw_ HB).out⟩
end Go.Proofs.Ytdfcoebadjhjlaa.QH
