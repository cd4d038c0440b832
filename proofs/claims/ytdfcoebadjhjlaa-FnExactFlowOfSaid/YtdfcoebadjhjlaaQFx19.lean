import Derived.Test.YtdfcoebadjhjlaaQFx9
import Derived.Test.YtdfcoebadjhjlaaQFx10
namespace Go.Proofs.Ytdfcoebadjhjlaa.QF
open Go.RowKit Go.Proofs.YtdfcoebadjhjlaaW.PrintWords Go.Proofs.YtdfcoebadjhjlaaW.PrintLast Go.Proofs.YtdfcoebadjhjlaaW.PrintMore
attribute [local go_sem] isSome_setCell max2_int min2_int max_two min_two max_three min_three max_four min_four
set_option linter.unusedVariables false
set_option linter.unusedSimpArgs false

/-! ### spec_l02Up: function 69 -/
def spec_l02Up.f (k : Nat) (a0 a1_0 a1_1 a1_2 a2 : Int) : Option (Int × Int × Int × Bool) := (spec_l01Power.f k a0 a1_2).bind fun t215 => ((spec_l01Of.f k a0 a1_1 t215 a2).bind fun bt216 => (some (bt216.1, bt216.2.1, bt216.2.2.1, bt216.2.2.2)))
def spec_l02Up.T1 : Bool × List (List Nat × List Nat) := (true, [([], []), ([], []), ([1], [1]), ([], []), ([], []), ([4], [4]), ([3, 5], [3, 5]), ([], []), ([0, 2, 6, 7, 6], [0, 2, 6, 7]), ([8], [8]), ([8], [8]), ([9, 8, 0, 1, 2, 3, 4, 5, 6, 7, 8, 9, 10], [9]), ([10, 11, 0, 1, 2, 3, 4, 5, 6, 7, 8, 9, 10, 11], [10])])
def spec_l02Up.B1 : List Nat := [0, 0, 2, 0, 0, 16, 56, 0, 255, 511, 511, 2047, 4095]
theorem spec_l02Up.tab1 : rtab .any (opsOf Try.f69 1) = spec_l02Up.T1 := by kernel_rfl
theorem spec_l02Up.bits1 : waitsOk spec_l02Up.T1.2 spec_l02Up.B1 = true := by kernel_rfl
set_option maxHeartbeats 8000000 in
set_option maxRecDepth 100000 in
theorem spec_l02Up.calls (k : Nat) (a0 a1_0 a1_1 a1_2 a2 r1 r2 r3 : Int) (r4 : Bool) (w : World) (h : spec_l02Up.f k a0 a1_0 a1_1 a1_2 a2 = some (r1, r2, r3, r4)) :
  Calls Try.prog 69 #[.int .i64 a0, .agg #[.int .i64 a1_0, .int .i64 a1_1, .int .i64 a1_2], .int .i64 a2] w fun e w' => e = .returned (.tuple #[.agg #[.int .i64 r1, .int .i64 r2, .int .i64 r3], .bool r4]) ∧ Below w.heap.size w w' := by
 have hu31 := Try.underlying31
 have HB := Aside0.mk (Below.refl w.heap.size w)
 unfold spec_l02Up.f at h
 have H := h
 clear h
 replace H := oc_ H
 obtain ⟨t215, A4, H⟩ := H
 replace H := oc_ H
 obtain ⟨⟨t216, t217, t218, t219⟩, A5, H⟩ := H
 simp only [Option.some.injEq, Prod.mk.injEq] at H
 obtain ⟨rfl, rfl, rfl, rfl⟩ := H
 go_enter Try.func69, Try.ntmps69
 try go_wp2_with (first | ((refine gd_ 4 ?_); refine by_ 4 #[.int .i64 a1_0, .int .i64 a1_1, .int .i64 a1_2] 31 HB ?_; intro gb213 hg w6 BK213 hb GW213 HB_; replace HB := HB_; clear hb hg) | ((refine gd_ 6 ?_); refine by_ 6 #[.int .i64 0, .int .i64 0, .int .i64 0] 31 HB ?_; intro gb214 hg w7 BK214 hb GW214 HB_; have NB213_214 := bm_ BK213 hg; have NB214_213 := bn_ BK213 hg; replace BK213 := bb_ BK213 hb; replace HB := HB_; clear hb hg))
 replace BK213 := bd_ BK213
 replace BK214 := bd_ BK214
 replace HB := be_ HB
 refine start_ (n := 13) (S := fun w' => w'.cell? ⟨gb213, 0, none⟩ = some (.int .i64 a1_0) ∧ w'.cell? ⟨gb213, 1, none⟩ = some (.int .i64 a1_1) ∧ w'.cell? ⟨gb213, 2, none⟩ = some (.int .i64 a1_2)) (ds := []) (bv_ 13 0) (by kernel_rfl) rfl rfl ⟨cz_ BK213 0, cz_ BK213 1, cz_ BK213 2⟩ (fun hHeld => ?_); refine with_tabW spec_l02Up.tab1 spec_l02Up.bits1 (fun HT_ HW_ => ?_)
 generalize w7.drew = w8 at BK213 BK214 HB hHeld ⊢
 refine px_ HT_ 0 8 1 ?_
 refine px_ HT_ 1 9 3 ?_
 refine px_ HT_ 3 11 11 ?_
 refine px_ HT_ 4 12 27 ?_
 refine px_ HT_ 7 15 155 ?_
 refine ta_ HT_ HW_ 2 (some 10) (bv_ 13 159) hHeld ?_ (hy := by rintro w' ⟨s0, s1, s2⟩; go_simp; with_reducible rfl)
 refine ta_ HT_ HW_ 5 (some 13) (bv_ 13 191) hHeld ?_ (hy := by rintro w' ⟨s0, s1, s2⟩; go_simp; with_reducible rfl)
 refine on_ HT_ 6 (some 14) (bv_ 13 255) (fun K hK => ?_)
 refine gs_ Try.func68 #[.int .i64 a0, .int .i64 a1_2] ?_
 with_reducible refine (spec_l01Power.calls k a0 a1_2 t215 _ A4.out).mono ?_
 rintro e w' ⟨rfl, ⟨nd, rfl⟩⟩
 refine ⟨_, rfl, ?_⟩
 refine hK.out _ _ ⟨cz_ BK213 0, cz_ BK213 1, cz_ BK213 2⟩ (fun hHeld => ?_)
 clear hK K
 refine nm_ (some 14) ?_
 refine on_ HT_ 8 (some 16) (bv_ 13 511) (fun K hK => ?_)
 refine gs_ Try.func75 #[.int .i64 a0, .int .i64 a1_1, .int .i64 t215, .int .i64 a2] ?_
 with_reducible refine (spec_l01Of.calls k a0 a1_1 t215 a2 t216 t217 t218 t219 _ A5.out).mono ?_
 rintro e w9 ⟨rfl, hb⟩
 refine ⟨_, rfl, ?_⟩
 replace BK213 := bb_ BK213 hb
 replace BK214 := bb_ BK214 hb
 replace HB := bt_ HB hb
 try clear hb
 refine hK.out _ _ ⟨cz_ BK213 0, cz_ BK213 1, cz_ BK213 2⟩ (fun hHeld => ?_)
 clear hK K
 refine nm_ (some 16) ?_
 refine px_ HT_ 9 17 1023 ?_
 refine px_ HT_ 10 18 2047 ?_
 refine on_ HT_ 11 none (bv_ 13 4095) (fun K hK => ?_)
 have hs10 : w9.cell? ⟨gb214, 0, none⟩ = some (.int .i64 0) := (blk_cell BK214.out 0).trans rfl
 have hfs10 := blk_frozen BK214.out 0
 have hns10_0 := NB213_214.out
 have hms10_0 := NB214_213.out
 have hs11 : w9.cell? ⟨gb214, 1, none⟩ = some (.int .i64 0) := (blk_cell BK214.out 1).trans rfl
 have hfs11 := blk_frozen BK214.out 1
 have hns11_0 := NB213_214.out
 have hms11_0 := NB214_213.out
 have hs12 : w9.cell? ⟨gb214, 2, none⟩ = some (.int .i64 0) := (blk_cell BK214.out 2).trans rfl
 have hfs12 := blk_frozen BK214.out 2
 have hns12_0 := NB213_214.out
 have hms12_0 := NB214_213.out
 refine skip_ (w1 := ?_) (by rfl) rfl ?_ ?_
 rotate_left
 ·go_simp
  rfl
 refine hK.out _ _ ⟨(cg_ NB213_214 ((cg_ NB213_214 ((cg_ NB213_214 (hHeld.1)))))), (cg_ NB213_214 ((cg_ NB213_214 ((cg_ NB213_214 (hHeld.2.1)))))), (cg_ NB213_214 ((cg_ NB213_214 ((cg_ NB213_214 (hHeld.2.2))))))⟩ (fun hHeld => ?_)
 clear hK K
 refine px_ HT_ 12 7 8191 ?_
 refine done_ (done_of HT_.out (by kernel_rfl)) ?_
 try go_wp2
 refine bodyPost_ret (results_ct rfl _ _ gb214 31 #[.int .i64 t216, .int .i64 t217, .int .i64 t218] (0, 0) _ rfl (bp_ BK214).out Try.underlying31 rfl (by kernel_rfl)) rfl ?_
 exact ⟨es_, (bw_ HB).out⟩
end Go.Proofs.Ytdfcoebadjhjlaa.QF
