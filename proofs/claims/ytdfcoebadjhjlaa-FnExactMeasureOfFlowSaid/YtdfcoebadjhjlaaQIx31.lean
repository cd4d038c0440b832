import Derived.Test.YtdfcoebadjhjlaaQIx5
import Derived.Test.YtdfcoebadjhjlaaQIx22
namespace Go.Proofs.Ytdfcoebadjhjlaa.QI
open Go.RowKit Go.Proofs.YtdfcoebadjhjlaaW.PrintWords Go.Proofs.YtdfcoebadjhjlaaW.PrintLast Go.Proofs.YtdfcoebadjhjlaaW.PrintMore
attribute [local go_sem] isSome_setCell max2_int min2_int max_two min_two max_three min_three max_four min_four
set_option linter.unusedVariables false
set_option linter.unusedSimpArgs false

/-! ### spec_l02Up: function 69 -/
def spec_l02Up.f (k : Nat) (a0 a1_0 a1_1 a1_2 a2 : Int) : Option (Int × Int × Int × Bool) := (spec_l01Power.f k a0 a1_2).bind fun t251 => ((spec_l01Of.f k a0 a1_1 t251 a2).bind fun bt252 => (some (bt252.1, bt252.2.1, bt252.2.2.1, bt252.2.2.2)))
def spec_l02Up.T1 : Bool × List (List Nat × List Nat) := (true, [([], []), ([], []), ([1], [1]), ([], []), ([], []), ([4], [4]), ([3, 5], [3, 5]), ([], []), ([0, 2, 6, 7, 6], [0, 2, 6, 7]), ([8], [8]), ([8], [8]), ([9, 8, 0, 1, 2, 3, 4, 5, 6, 7, 8, 9, 10], [9]), ([10, 11, 0, 1, 2, 3, 4, 5, 6, 7, 8, 9, 10, 11], [10])])
def spec_l02Up.B1 : List Nat := [0, 0, 2, 0, 0, 16, 56, 0, 255, 511, 511, 2047, 4095]
theorem spec_l02Up.tab1 : rtab .any (opsOf Try.f69 1) = spec_l02Up.T1 := by kernel_rfl
theorem spec_l02Up.bits1 : waitsOk spec_l02Up.T1.2 spec_l02Up.B1 = true := by kernel_rfl
set_option maxHeartbeats 8000000 in
set_option maxRecDepth 100000 in
theorem spec_l02Up.calls (k : Nat) (a0 a1_0 a1_1 a1_2 a2 r1 r2 r3 : Int) (r4 : Bool) (w : World) (h : spec_l02Up.f k a0 a1_0 a1_1 a1_2 a2 = some (r1, r2, r3, r4)) :
  Calls Try.prog 69 #[.int .i64 a0, .agg #[.int .i64 a1_0, .int .i64 a1_1, .int .i64 a1_2], .int .i64 a2] w fun e w' => e = .returned (.tuple #[.agg #[.int .i64 r1, .int .i64 r2, .int .i64 r3], .bool r4]) ∧ Below w.heap.size w w' := by
 have hu31 := Try.underlying31
 have HB := Aside0.mk (Below.refl w.heap.size w)
 unfold spec_l02Up.f at h
 have H := h
 clear h
 replace H := oc_ H
 obtain ⟨t251, A4, H⟩ := H
 replace H := oc_ H
 obtain ⟨⟨t252, t253, t254, t255⟩, A5, H⟩ := H
 simp only [Option.some.injEq, Prod.mk.injEq] at H
 obtain ⟨rfl, rfl, rfl, rfl⟩ := H
 go_enter Try.func69, Try.ntmps69
 try go_wp2_with (first | ((refine gd_ 4 ?_); refine by_ 4 #[.int .i64 a1_0, .int .i64 a1_1, .int .i64 a1_2] 31 HB ?_; intro gb249 hg w6 BK249 hb GW249 HB_; replace HB := HB_; clear hb hg) | ((refine gd_ 6 ?_); refine by_ 6 #[.int .i64 0, .int .i64 0, .int .i64 0] 31 HB ?_; intro gb250 hg w7 BK250 hb GW250 HB_; have NB249_250 := bm_ BK249 hg; have NB250_249 := bn_ BK249 hg; replace BK249 := bb_ BK249 hb; replace HB := HB_; clear hb hg))
 replace BK249 := bd_ BK249
 replace BK250 := bd_ BK250
 replace HB := be_ HB
 refine start_ (n := 13) (S := fun w' => w'.cell? ⟨gb249, 0, none⟩ = some (.int .i64 a1_0) ∧ w'.cell? ⟨gb249, 1, none⟩ = some (.int .i64 a1_1) ∧ w'.cell? ⟨gb249, 2, none⟩ = some (.int .i64 a1_2)) (ds := []) (bv_ 13 0) (by kernel_rfl) rfl rfl ⟨cz_ BK249 0, cz_ BK249 1, cz_ BK249 2⟩ (fun hHeld => ?_); refine with_tabW spec_l02Up.tab1 spec_l02Up.bits1 (fun HT_ HW_ => ?_)
 generalize w7.drew = w8 at BK249 BK250 HB hHeld ⊢
 refine px_ HT_ 0 8 1 ?_
 refine px_ HT_ 1 9 3 ?_
 refine px_ HT_ 3 11 11 ?_
 refine px_ HT_ 4 12 27 ?_
 refine px_ HT_ 7 15 155 ?_
 refine ta_ HT_ HW_ 2 (some 10) (bv_ 13 159) hHeld ?_ (hy := by rintro w' ⟨s0, s1, s2⟩; go_simp; with_reducible rfl)
 refine ta_ HT_ HW_ 5 (some 13) (bv_ 13 191) hHeld ?_ (hy := by rintro w' ⟨s0, s1, s2⟩; go_simp; with_reducible rfl)
 refine on_ HT_ 6 (some 14) (bv_ 13 255) (fun K hK => ?_)
 refine gs_ Try.func68 #[.int .i64 a0, .int .i64 a1_2] ?_
 with_reducible refine (spec_l01Power.calls k a0 a1_2 t251 _ A4.out).mono ?_
 rintro e w' ⟨rfl, ⟨nd, rfl⟩⟩
 refine ⟨_, rfl, ?_⟩
 refine hK.out _ _ ⟨cz_ BK249 0, cz_ BK249 1, cz_ BK249 2⟩ (fun hHeld => ?_)
 clear hK K
 refine nm_ (some 14) ?_
 refine on_ HT_ 8 (some 16) (bv_ 13 511) (fun K hK => ?_)
 refine gs_ Try.func75 #[.int .i64 a0, .int .i64 a1_1, .int .i64 t251, .int .i64 a2] ?_
 with_reducible refine (spec_l01Of.calls k a0 a1_1 t251 a2 t252 t253 t254 t255 _ A5.out).mono ?_
 rintro e w9 ⟨rfl, hb⟩
 refine ⟨_, rfl, ?_⟩
 replace BK249 := bb_ BK249 hb
 replace BK250 := bb_ BK250 hb
 replace HB := bt_ HB hb
 try clear hb
 refine hK.out _ _ ⟨cz_ BK249 0, cz_ BK249 1, cz_ BK249 2⟩ (fun hHeld => ?_)
 clear hK K
 refine nm_ (some 16) ?_
 refine px_ HT_ 9 17 1023 ?_
 refine px_ HT_ 10 18 2047 ?_
 refine on_ HT_ 11 none (bv_ 13 4095) (fun K hK => ?_)
 have hs10 : w9.cell? ⟨gb250, 0, none⟩ = some (.int .i64 0) := (blk_cell BK250.out 0).trans rfl
 have hfs10 := blk_frozen BK250.out 0
 have hns10_0 := NB249_250.out
 have hms10_0 := NB250_249.out
 have hs11 : w9.cell? ⟨gb250, 1, none⟩ = some (.int .i64 0) := (blk_cell BK250.out 1).trans rfl
 have hfs11 := blk_frozen BK250.out 1
 have hns11_0 := NB249_250.out
 have hms11_0 := NB250_249.out
 have hs12 : w9.cell? ⟨gb250, 2, none⟩ = some (.int .i64 0) := (blk_cell BK250.out 2).trans rfl
 have hfs12 := blk_frozen BK250.out 2
 have hns12_0 := NB249_250.out
 have hms12_0 := NB250_249.out
 refine skip_ (w1 := ?_) (by rfl) rfl ?_ ?_
 rotate_left
 ·go_simp
  rfl
 refine hK.out _ _ ⟨(cg_ NB249_250 ((cg_ NB249_250 ((cg_ NB249_250 (hHeld.1)))))), (cg_ NB249_250 ((cg_ NB249_250 ((cg_ NB249_250 (hHeld.2.1)))))), (cg_ NB249_250 ((cg_ NB249_250 ((cg_ NB249_250 (hHeld.2.2))))))⟩ (fun hHeld => ?_)
 clear hK K
 refine px_ HT_ 12 7 8191 ?_
 refine done_ (done_of HT_.out (by kernel_rfl)) ?_
 try go_wp2
 refine bodyPost_ret (results_ct rfl _ _ gb250 31 #[.int .i64 t252, .int .i64 t253, .int .i64 t254] (0, 0) _ rfl (bp_ BK250).out Try.underlying31 rfl (by kernel_rfl)) rfl ?_
 exact ⟨es_, (bw_ HB).out⟩
end Go.Proofs.Ytdfcoebadjhjlaa.QI
