import Derived.Test.YteniblbnmcfmjaaQMx6
import Derived.Test.YteniblbnmcfmjaaQMx7
import Derived.Test.YteniblbnmcfmjaaQMx20
import Derived.Test.YteniblbnmcfmjaaQMx15
namespace Go.Proofs.Yteniblbnmcfmjaa.QM
set_option maxHeartbeats 8000000
set_option maxRecDepth 100000
open Go.RowKit Go.Proofs.YteniblbnmcfmjaaW.PrintWords Go.Proofs.YteniblbnmcfmjaaW.PrintLast Go.Proofs.YteniblbnmcfmjaaW.PrintMore
attribute [local go_sem] isSome_setCell max2_int min2_int max_two min_two max_three min_three max_four min_four
set_option linter.unusedVariables false
set_option linter.unusedSimpArgs false

/-! ### spec_DrawReduceMatrix: function 10 -/
def spec_DrawReduceMatrix.l0 : Nat → Int → Int → Int → Int → Int → Int → Option (Int × Int × Int × Int)
 | 0, _, _, _, _, _, _ => none
 | k + 1, x5, x6, x281000, x281001, x281002, x281003 => if x6 < 4 then (if x6 = 0 then (spec_DrawReduceMatrix.l0 k x5 (wrap64 (x6 + 1)) (wrap64 (x281000 * x5)) x281001 x281002 x281003) else (if x6 = 1 then (spec_DrawReduceMatrix.l0 k x5 (wrap64 (x6 + 1)) x281000 (wrap64 (x281001 * x5)) x281002 x281003) else (if x6 = 2 then (spec_DrawReduceMatrix.l0 k x5 (wrap64 (x6 + 1)) x281000 x281001 (wrap64 (x281002 * x5)) x281003) else (if x6 = 3 then (spec_DrawReduceMatrix.l0 k x5 (wrap64 (x6 + 1)) x281000 x281001 x281002 (wrap64 (x281003 * x5))) else (none))))) else (some (x281000, x281001, x281002, x281003))
def spec_DrawReduceMatrix.f (k : Nat) (l0 : List Int) : Option (Int × Int × Int × Int) := (spec_l01From.f k l0).bind fun bt270 => ((spec_l04Draw.f k bt270.1 bt270.2.1 bt270.2.2).bind fun bt274 => ((spec_l01Pick.f bt270.1 bt274.2.2.2.2.1 bt274.2.2.2.2.2 (([1, 1, 2, (-1), (-6)] : List Int))).bind fun bt284 => ((spec_l04Is.f k bt274.1 bt274.2.1 bt274.2.2.1 bt274.2.2.2.1).bind fun t287 => (if t287 = true then (spec_DrawReduceMatrix.l0 k bt284.1 0 bt274.1 bt274.2.1 bt274.2.2.1 bt274.2.2.2.1) else (some (bt274.1, bt274.2.1, bt274.2.2.1, bt274.2.2.2.1))))))
def spec_DrawReduceMatrix.T8 : Bool × List (List Nat × List Nat) := (true, [([], []), ([0], [0]), ([], []), ([2], [2]), ([], []), ([4], [4]), ([], []), ([6], [6]), ([5], [5]), ([8, 7], [7, 8]), ([9], [9]), ([], []), ([10, 11], [10, 11]), ([1], [1]), ([13, 3, 0, 1, 2, 3, 4, 5, 6, 7, 8, 9, 10, 11, 12], [3, 13]), ([14, 12, 0, 1, 2, 3, 4, 5, 6, 7, 8, 9, 10, 11, 12], [12, 14])])
def spec_DrawReduceMatrix.B8 : List Nat := [0, 1, 0, 4, 0, 16, 0, 64, 48, 496, 1008, 0, 4080, 3, 16383, 32767]
theorem spec_DrawReduceMatrix.tab8 : rtab .any (opsOf Try.f10 8) = spec_DrawReduceMatrix.T8 := by kernel_rfl
theorem spec_DrawReduceMatrix.bits8 : waitsOk spec_DrawReduceMatrix.T8.2 spec_DrawReduceMatrix.B8 = true := by kernel_rfl
theorem spec_DrawReduceMatrix.calls (k : Nat) (A0 : Option Addr) (c0 : Nat) (l0 : List Int) (r1 r2 r3 r4 : Int) (w : World) (hr0 : Kd.C (Kd.int .u8) w A0 l0.length l0) (hc0 : l0.length ≤ c0) (h : spec_DrawReduceMatrix.f k l0 = some (r1, r2, r3, r4)) :
  Calls Try.prog 10 #[.slice A0 l0.length c0] w fun e w' => e = .returned (.agg #[.int .i64 r1, .int .i64 r2, .int .i64 r3, .int .i64 r4]) ∧ Below w.heap.size w w' := by
 have hu26 := Try.underlying26
 have hu24 := Try.underlying24
 have HR0 := Aside0.mk hr0
 have HC0 := Aside0.mk hc0
 clear hr0 hc0
 have HB := Aside0.mk (Below.refl w.heap.size w)
 unfold spec_DrawReduceMatrix.f at h
 have H := h
 clear h
 replace H := oc_ H
 obtain ⟨⟨t270, t271, t272⟩, A2, H⟩ := H
 replace H := oc_ H
 obtain ⟨⟨t274, t275, t276, t277, t278, t279⟩, A3, H⟩ := H
 obtain ⟨y281, hy281⟩ : ∃ y_ : List Int, y_ = (([1, 1, 2, (-1), (-6)] : List Int)) := ⟨_, rfl⟩
 replace H : ((spec_l01Pick.f t270 t278 t279 y281).bind fun bt284 => ((spec_l04Is.f k t274 t275 t276 t277).bind fun t287 => (if t287 = true then (spec_DrawReduceMatrix.l0 k bt284.1 0 t274 t275 t276 t277) else (some (t274, t275, t276, t277))))) = some (r1, r2, r3, r4) := by first | (rw [hy281]; with_reducible exact H) | (have H2_ := (Option.bind_some _ _).symm.trans H; rw [hy281]; with_reducible exact H2_) | (have H2_ := (Option.bind_some _ _).symm.trans H; with_reducible exact H2_) | with_reducible exact H | (rw [hy281]; exact H) | exact H
 have Ny281 := Aside0.mk hy281
 clear hy281
 replace H := oc_ H
 obtain ⟨⟨t284, t285, t286⟩, A4, H⟩ := H
 replace H := oc_ H
 obtain ⟨t287, A5, H⟩ := H
 replace H := ib_ H
 rcases H with ⟨rfl, H⟩ | ⟨rfl, H⟩
 ·have H' := Aside0.mk H
  clear H
  go_enter Try.func10, Try.ntmps10
  go_wp2_with (first | ((refine gd_ 2 ?_); refine by_ 2 #[.int .i64 0, .int .i64 0, .int .i64 0, .int .i64 0] 26 HB ?_; intro gb269 hg w7 BK269 hb GW269 HB_; replace HB := HB_; clear hb hg) | ((refine gc_ 22 ?_); refine ge_ 8 Try.func22 #[.slice A0 l0.length c0] ?_; (with_reducible refine (spec_l01From.calls k _ _ l0 t270 t271 t272 w _ ?side1 ?side2 ?side3 A2.out).mono ?_); (case side1 => repeat (first | (with_reducible first | exact HB.out | apply below_alloc | apply pw_below_drewN | apply below_drew1 | refine below_set ?_ GW269.out) | exact HB.out)); (case side2 => exact HR0.out); (case side3 => exact HC0.out); rintro e w8 ⟨g273, rfl, hi, hb, hb2⟩; refine ⟨_, rfl, ?_⟩; have HI273 := Aside0.mk (hi); have NB273_269 := Aside0.mk (IsS55.ne_blk hi (blk_below (g := gb269) (o := .cells #[.int .i64 0, .int .i64 0, .int .i64 0, .int .i64 0] 26 (0, 0)) (bl_ BK269).out hb2) (by decide)); have NB269_273 := Aside0.mk (Ne.symm (IsS55.ne_blk hi (blk_below (g := gb269) (o := .cells #[.int .i64 0, .int .i64 0, .int .i64 0, .int .i64 0] 26 (0, 0)) (bl_ BK269).out hb2) (by decide))); replace BK269 := Aside0.mk (blk_below (g := gb269) (o := .cells #[.int .i64 0, .int .i64 0, .int .i64 0, .int .i64 0] 26 (0, 0)) (bl_ BK269).out hb2); replace HB := Aside0.mk (hb); (try clear hb); (try clear hb2); (try clear hi)) | ((refine gc_ 23 ?_); refine ge_ 10 Try.func23 #[.pointer (some ⟨g273, 0, none⟩)] ?_; (with_reducible refine (spec_l04Draw.calls k g273 t270 t271 t272 t274 t275 t276 t277 t278 t279 w _ ?side1 ?side2 A3.out).mono ?_); (case side1 => repeat (first | (with_reducible first | exact HI273.out | apply IsS55.alloc | apply IsS55.drewN | apply IsS55.drew | apply IsS55.set_1 | apply IsS55.set_2 | refine IsS55.far ?_ NB273_269.out _) | exact HI273.out)); (case side2 => repeat (first | (with_reducible first | exact HB.out | apply below_alloc | apply pw_below_drewN | apply below_drew1 | refine below_set ?_ (IsS55.ge HI273.out) | refine below_set ?_ GW269.out) | exact HB.out)); rintro e w9 ⟨rfl, hi, hb, hk⟩; refine ⟨_, rfl, ?_⟩; replace BK269 := Aside0.mk (KeepBut.blk hk (g' := gb269) (o := .cells #[.int .i64 0, .int .i64 0, .int .i64 0, .int .i64 0] 26 (0, 0)) (bl_ BK269).out NB269_273.out (by simp)); replace HB := Aside0.mk (hb); replace HI273 := Aside0.mk (hi); (try clear hb); (try clear hk); (try clear hi)) | ((refine gd_ 4 ?_); refine bx_ 4 #[.int .i64 0, .int .i64 0, .int .i64 0, .int .i64 0] 26 ?_; intro gb280 hg w10 BK280 hb; have GW280 := Aside0.mk ((by rw [hg]; exact (below_size (by repeat (first | (with_reducible first | exact HB.out | apply below_alloc | apply pw_below_drewN | apply below_drew1 | refine below_set ?_ (IsS55.ge HI273.out) | refine below_set ?_ GW269.out) | exact HB.out))) : w.heap.size ≤ gb280)); have GE280 := Aside0.mk ((by rw [hg]; exact (below_size (by repeat (first | (with_reducible first | exact HB.out | apply below_alloc | apply pw_below_drewN | apply below_drew1 | refine below_set ?_ (IsS55.ge HI273.out) | refine below_set ?_ GW269.out) | exact HB.out))) : w.heap.size ≤ gb280)); have NB269_280 := bm_ BK269 hg; have NB280_269 := bn_ BK269 hg; have NB273_280 := Aside0.mk ((by rw [hg]; exact Nat.ne_of_lt (IsS55.lt (show IsS55 w _ g273 t270 t278 t279 from by repeat (first | (with_reducible first | exact HI273.out | apply IsS55.alloc | apply IsS55.drewN | apply IsS55.drew | apply IsS55.set_1 | apply IsS55.set_2 | refine IsS55.far ?_ NB273_269.out _) | exact HI273.out))) : g273 ≠ gb280)); have NB280_273 := Aside0.mk ((by rw [hg]; exact Nat.ne_of_gt (IsS55.lt (show IsS55 w _ g273 t270 t278 t279 from by repeat (first | (with_reducible first | exact HI273.out | apply IsS55.alloc | apply IsS55.drewN | apply IsS55.drew | apply IsS55.set_1 | apply IsS55.set_2 | refine IsS55.far ?_ NB273_269.out _) | exact HI273.out))) : gb280 ≠ g273)); replace BK269 := bb_ BK269 hb; replace HB := Aside0.mk (below_step (by repeat (first | (with_reducible first | exact HB.out | apply below_alloc | apply pw_below_drewN | apply below_drew1 | refine below_set ?_ (IsS55.ge HI273.out) | refine below_set ?_ GW269.out) | exact HB.out)) hb); replace HI273 := Aside0.mk (IsS55.below (by repeat (first | (with_reducible first | exact HI273.out | apply IsS55.alloc | apply IsS55.drewN | apply IsS55.drew | apply IsS55.set_1 | apply IsS55.set_2 | refine IsS55.far ?_ NB273_269.out _) | exact HI273.out)) hb); clear hb hg; have hnb11 := NB280_269.out; have hnc11 := NB269_280.out; have hnb12 := NB280_273.out; have hnc12 := NB273_280.out; obtain ⟨hcz13_0, hcz13_1, hcz13_2, hcz13_3, hfz13_0, hfz13_1, hfz13_2, hfz13_3⟩ := ch4_ BK280) | ((refine gd_ 12 ?_); refine Kd.R_lit (Kd.int .i64) _ 2 ?hg (N := 12) ?hd (xs := ([1, 1, 2, (-1), (-6)] : List Int)) (inner := [.int .i64 1, .int .i64 1, .int .i64 2, .int .i64 (-1), .int .i64 (-6)]) (ok := fun _ => True) (okp := fun _ => True) ?hr ?hp (fun _ hk => hk) trivial (Below.refl _ _) (Nat.le_refl _) (by simp) ?_; (case hd => rfl); (case hg => rfl); (case hr => first | (go_simp; done) | (go_simp; rfl)); (case hp => exact (Reps.one (show Kd.M (Kd.int .i64) _ _ _ 1 [.int .i64 1] from rfl) (Reps.one (show Kd.M (Kd.int .i64) _ _ _ 1 [.int .i64 1] from rfl) (Reps.one (show Kd.M (Kd.int .i64) _ _ _ 2 [.int .i64 2] from rfl) (Reps.one (show Kd.M (Kd.int .i64) _ _ _ (-1) [.int .i64 (-1)] from rfl) (Reps.one (show Kd.M (Kd.int .i64) _ _ _ (-6) [.int .i64 (-6)] from rfl) (Reps.none _ _))))))); intro v282 w14 ho15 hb hg_ hnew_; clear hg_ hnew_; (first | rw [← Ny281.out] at ho15 | (simp only [Int.reduceToNat] at ho15; rw [← Ny281.out] at ho15)); have HO283 := Aside0.mk (Kd.R_lower ho15 (below_size (by repeat (first | (with_reducible first | exact HB.out | apply below_alloc | apply pw_below_drewN | apply below_drew1 | refine below_set ?_ (IsS55.ge HI273.out) | refine below_set ?_ GW269.out | refine below_set ?_ GE280.out) | exact HB.out)))); replace BK269 := fb_ BK269 NB269_280 hb; replace BK280 := Aside0.mk (blk_below (g := gb280) (o := .cells #[.int .i64 t274, .int .i64 t275, .int .i64 t276, .int .i64 t277] 26 (0, 0)) (bp_ BK280).out hb); replace HB := Aside0.mk (below_step (by repeat (first | (with_reducible first | exact HB.out | apply below_alloc | apply pw_below_drewN | apply below_drew1 | refine below_set ?_ (IsS55.ge HI273.out) | refine below_set ?_ GW269.out | refine below_set ?_ GE280.out) | exact HB.out)) hb); replace HI273 := Aside0.mk (IsS55.below (show IsS55 w ((((w10.setCell ⟨gb280, 0, none⟩ (.int .i64 t274)).setCell ⟨gb280, 1, none⟩ (.int .i64 t275)).setCell ⟨gb280, 2, none⟩ (.int .i64 t276)).setCell ⟨gb280, 3, none⟩ (.int .i64 t277)) g273 t270 t278 t279 from by repeat (first | (with_reducible first | exact HI273.out | apply IsS55.alloc | apply IsS55.drewN | apply IsS55.drew | apply IsS55.set_1 | apply IsS55.set_2 | refine IsS55.far ?_ NB273_269.out _ | refine IsS55.far ?_ NB273_280.out _) | exact HI273.out)) hb); clear hb ho15; obtain ⟨Ao16, co16, eo16⟩ := Kd.R_slice HO283.out; subst eo16) | ((refine gc_ 31 ?_); refine ge_ 13 Try.func31 #[.pointer (some ⟨g273, 0, none⟩), .slice Ao16 y281.length co16] ?_; (with_reducible refine (spec_l01Pick.calls g273 t270 t278 t279 _ _ y281 t284 t285 t286 w _ ?side1 ?side2 ?side3 ?side4 ?side5 A4.out).mono ?_); (case side1 => repeat (first | (with_reducible first | exact HI273.out | apply IsS55.alloc | apply IsS55.drewN | apply IsS55.drew | apply IsS55.set_1 | apply IsS55.set_2 | refine IsS55.far ?_ NB273_269.out _ | refine IsS55.far ?_ NB273_280.out _) | exact HI273.out)); (case side2 => repeat (first | (with_reducible first | exact HB.out | apply below_alloc | apply pw_below_drewN | apply below_drew1 | refine below_set ?_ (IsS55.ge HI273.out) | refine below_set ?_ GW269.out | refine below_set ?_ GE280.out) | exact HB.out)); (case side3 => exact ca_ (Kd.R_reads' HO283.out).2.2); (case side4 => exact (Kd.R_reads' HO283.out).2.1); (case side5 => exact far_slice (IsS55.own_ne HI273.out HO283.out (by decide))); rintro e w17 ⟨rfl, hi, hb, hk⟩; refine ⟨_, rfl, ?_⟩; replace BK269 := Aside0.mk (KeepBut.blk hk (g' := gb269) (o := .cells #[.int .i64 0, .int .i64 0, .int .i64 0, .int .i64 0] 26 (0, 0)) (bl_ BK269).out NB269_273.out (by simp)); replace BK280 := Aside0.mk (KeepBut.blk hk (g' := gb280) (o := .cells #[.int .i64 t274, .int .i64 t275, .int .i64 t276, .int .i64 t277] 26 (0, 0)) (bl_ BK280).out NB280_273.out (by simp)); replace HO283 := Aside0.mk (Kd.R_mono (Kd.R_keep (IsS55.apart (show IsS55 w _ g273 t270 t278 t279 from by repeat (first | (with_reducible first | exact HI273.out | apply IsS55.alloc | apply IsS55.drewN | apply IsS55.drew | apply IsS55.set_1 | apply IsS55.set_2 | refine IsS55.far ?_ NB273_269.out _ | refine IsS55.far ?_ NB273_280.out _) | exact HI273.out)) (ra_ HO283.out) (by decide)) hk (fun _ h => h.2)) (fun _ h => h.1)); replace HB := Aside0.mk (hb); replace HI273 := Aside0.mk (hi); (try clear hb); (try clear hk); (try clear hi); obtain ⟨hcz18_0, hcz18_1, hcz18_2, hcz18_3, hfz18_0, hfz18_1, hfz18_2, hfz18_3⟩ := ch4_ BK280) | ((refine gc_ 27 ?_); refine ge_ 15 Try.func27 #[.agg #[.int .i64 t274, .int .i64 t275, .int .i64 t276, .int .i64 t277]] ?_; (with_reducible refine (spec_l04Is.calls k t274 t275 t276 t277 true _ A5.out).mono ?_); rintro e w19 ⟨rfl, hb⟩; refine ⟨_, rfl, ?_⟩; replace HO283 := rb_ HO283 hb; replace BK269 := bb_ BK269 hb; replace BK280 := bb_ BK280 hb; replace HB := Aside0.mk (below_step (by repeat (first | (with_reducible first | exact HB.out | apply below_alloc | apply pw_below_drewN | apply below_drew1 | refine below_set ?_ (IsS55.ge HI273.out) | refine below_set ?_ GW269.out | refine below_set ?_ GE280.out) | exact HB.out)) hb); replace HI273 := Aside0.mk (IsS55.below (by repeat (first | (with_reducible first | exact HI273.out | apply IsS55.alloc | apply IsS55.drewN | apply IsS55.drew | apply IsS55.set_1 | apply IsS55.set_2 | refine IsS55.far ?_ NB273_269.out _ | refine IsS55.far ?_ NB273_280.out _) | exact HI273.out)) hb); (try clear hb)))
  go_loopg [6] k (fun kq v6 w' => ∃ (x6_1 : Int) (x281000_1 : Int) (x281001_1 : Int) (x281002_1 : Int) (x281003_1 : Int), v6 = .int .i64 x6_1 ∧ Aside0 (spec_DrawReduceMatrix.l0 kq t284 x6_1 x281000_1 x281001_1 x281002_1 x281003_1 = some (r1, r2, r3, r4)) ∧ Aside0 (kq ≤ k) ∧ Aside0 (w'.heap[gb269]? = some (.cells #[.int .i64 0, .int .i64 0, .int .i64 0, .int .i64 0] 26 (0, 0))) ∧ Aside0 (w'.heap[gb280]? = some (.cells #[.int .i64 x281000_1, .int .i64 x281001_1, .int .i64 x281002_1, .int .i64 x281003_1] 26 (0, 0))) ∧ Aside0 (Below w.heap.size w w'))
  case atStart => exact ⟨(0), (t274), (t275), (t276), (t277), en_, H', ⟨Nat.le_refl _⟩, bl_ BK269, bl_ BK280, ⟨by repeat (first | (with_reducible first | exact HB.out | apply below_alloc | apply pw_below_drewN | apply below_drew1 | refine below_set ?_ (IsS55.ge HI273.out) | refine below_set ?_ GW269.out | refine below_set ?_ GE280.out) | exact HB.out)⟩⟩
  clear H'
  try clear hcz13_0 hcz13_1 hcz13_2 hcz13_3
  try clear hcz18_0 hcz18_1 hcz18_2 hcz18_3
  try clear hfz13_0 hfz13_1 hfz13_2 hfz13_3
  try clear hfz18_0 hfz18_1 hfz18_2 hfz18_3
  obtain ⟨x6_1, x281000_1, x281001_1, x281002_1, x281003_1, rfl, HA, HK1, BK269, BK280, HB⟩ := hrel
  cases gk with
  | zero => exact absurd HA.out (by simp [spec_DrawReduceMatrix.l0])
  | succ k1 =>
   have H := HA.out
   clear HA
   simp only [spec_DrawReduceMatrix.l0] at H
   replace H := il_ H
   rcases H with ⟨c20b0, H⟩ | ⟨c20b0, H⟩
   ·by_cases c21 : x6_1 = 0
    ·subst c21
     replace H := i1_ H
     have H' := Aside0.mk H
     clear H
     try go_wp2
     replace BK269 := bd_ BK269
     replace BK280 := bd_ BK280
     replace HB := be_ HB
     refine start_ (n := 16) (S := fun w' => w'.cell? ⟨gb280, 0, none⟩ = some (.int .i64 x281000_1) ∧ w'.cell? ⟨gb280, 1, none⟩ = some (.int .i64 x281001_1) ∧ w'.cell? ⟨gb280, 2, none⟩ = some (.int .i64 x281002_1) ∧ w'.cell? ⟨gb280, 3, none⟩ = some (.int .i64 x281003_1)) (ds := [15]) (bv_ 16 0) (by kernel_rfl) rfl rfl ⟨cz_ BK280 0, cz_ BK280 1, cz_ BK280 2, cz_ BK280 3⟩ (fun hHeld => ?_); refine with_tabW spec_DrawReduceMatrix.tab8 spec_DrawReduceMatrix.bits8 (fun HT_ HW_ => ?_)
     generalize wr.drew = w22 at BK269 BK280 HB hHeld ⊢
     refine px_ HT_ 0 20 1 ?_
     refine px_ HT_ 1 21 3 ?_
     refine px_ HT_ 2 22 7 ?_
     refine px_ HT_ 3 23 15 ?_
     refine px_ HT_ 4 24 31 ?_
     refine px_ HT_ 5 25 63 ?_
     refine px_ HT_ 6 26 127 ?_
     refine px_ HT_ 7 27 255 ?_
     refine px_ HT_ 8 28 511 ?_
     refine px_ HT_ 9 29 1023 ?_
     refine px_ HT_ 11 31 3071 ?_
     refine px_ HT_ 13 33 11263 ?_
     refine ta_ HT_ HW_ 10 (some 30) (bv_ 16 12287) hHeld ?_ (hy := by rintro w' ⟨s0, s1, s2, s3⟩; go_simp; with_reducible rfl)
     refine px_ HT_ 12 32 16383 ?_
     refine px_ HT_ 14 34 32767 ?_
     refine last_ (i := 15) (N := none) (bv_ 16 65535) rfl rfl (one_of HT_.out (by kernel_rfl)) (by decide) (fun K hK => ?_)
     have hs23 : w22.cell? ⟨gb280, 0, none⟩ = some (.int .i64 x281000_1) := (blk_cell BK280.out 0).trans rfl
     have hfs23 := blk_frozen BK280.out 0
     have hns23_0 := NB269_280.out
     have hms23_0 := NB280_269.out
     refine skip_ (w1 := ?_) (by rfl) rfl ?_ ?_
     rotate_left
     ·go_simp
      rfl
     refine hK.out _ _ ?_
     clear hK K
     refine done_ (done_of HT_.out (by kernel_rfl)) ?_
     try go_wp2
     go_roundg k1
     case measure => have := HK1.out; omega
     case rel => exact ⟨(wrap64 (0 + 1)), (wrap64 (x281000_1 * t284)), (x281001_1), (x281002_1), (x281003_1), en_, H', ⟨by have := HK1.out; omega⟩, fl_ BK269 NB269_280, bp_ BK280, bw_ HB⟩
    rw [if_neg c21] at H
    have c21b0 : (x6_1 == 0) = false := beq_eq_false_iff_ne.mpr c21
    have c21b1 : (x6_1 != 0) = true := bne_iff_ne.mpr c21
    by_cases c24 : x6_1 = 1
    ·subst c24
     replace H := i1_ H
     have H' := Aside0.mk H
     clear H
     try go_wp2
     replace BK269 := bd_ BK269
     replace BK280 := bd_ BK280
     replace HB := be_ HB
     refine start_ (n := 16) (S := fun w' => w'.cell? ⟨gb280, 0, none⟩ = some (.int .i64 x281000_1) ∧ w'.cell? ⟨gb280, 1, none⟩ = some (.int .i64 x281001_1) ∧ w'.cell? ⟨gb280, 2, none⟩ = some (.int .i64 x281002_1) ∧ w'.cell? ⟨gb280, 3, none⟩ = some (.int .i64 x281003_1)) (ds := [15]) (bv_ 16 0) (by kernel_rfl) rfl rfl ⟨cz_ BK280 0, cz_ BK280 1, cz_ BK280 2, cz_ BK280 3⟩ (fun hHeld => ?_); refine with_tabW spec_DrawReduceMatrix.tab8 spec_DrawReduceMatrix.bits8 (fun HT_ HW_ => ?_)
     generalize wr.drew = w25 at BK269 BK280 HB hHeld ⊢
     refine px_ HT_ 0 20 1 ?_
     refine px_ HT_ 1 21 3 ?_
     refine px_ HT_ 2 22 7 ?_
     refine px_ HT_ 3 23 15 ?_
     refine px_ HT_ 4 24 31 ?_
     refine px_ HT_ 5 25 63 ?_
     refine px_ HT_ 6 26 127 ?_
     refine px_ HT_ 7 27 255 ?_
     refine px_ HT_ 8 28 511 ?_
     refine px_ HT_ 9 29 1023 ?_
     refine px_ HT_ 11 31 3071 ?_
     refine px_ HT_ 13 33 11263 ?_
     refine ta_ HT_ HW_ 10 (some 30) (bv_ 16 12287) hHeld ?_ (hy := by rintro w' ⟨s0, s1, s2, s3⟩; go_simp; with_reducible rfl)
     refine px_ HT_ 12 32 16383 ?_
     refine px_ HT_ 14 34 32767 ?_
     refine last_ (i := 15) (N := none) (bv_ 16 65535) rfl rfl (one_of HT_.out (by kernel_rfl)) (by decide) (fun K hK => ?_)
     have hs26 : w25.cell? ⟨gb280, 1, none⟩ = some (.int .i64 x281001_1) := (blk_cell BK280.out 1).trans rfl
     have hfs26 := blk_frozen BK280.out 1
     have hns26_0 := NB269_280.out
     have hms26_0 := NB280_269.out
     refine skip_ (w1 := ?_) (by rfl) rfl ?_ ?_
     rotate_left
     ·go_simp
      rfl
     refine hK.out _ _ ?_
     clear hK K
     refine done_ (done_of HT_.out (by kernel_rfl)) ?_
     try go_wp2
     go_roundg k1
     case measure => have := HK1.out; omega
     case rel => exact ⟨(wrap64 (1 + 1)), (x281000_1), (wrap64 (x281001_1 * t284)), (x281002_1), (x281003_1), en_, H', ⟨by have := HK1.out; omega⟩, fl_ BK269 NB269_280, bp_ BK280, bw_ HB⟩
    rw [if_neg c24] at H
    have c24b0 : (x6_1 == 1) = false := beq_eq_false_iff_ne.mpr c24
    have c24b1 : (x6_1 != 1) = true := bne_iff_ne.mpr c24
    by_cases c27 : x6_1 = 2
    ·subst c27
     replace H := i1_ H
     have H' := Aside0.mk H
     clear H
     try go_wp2
     replace BK269 := bd_ BK269
     replace BK280 := bd_ BK280
     replace HB := be_ HB
     refine start_ (n := 16) (S := fun w' => w'.cell? ⟨gb280, 0, none⟩ = some (.int .i64 x281000_1) ∧ w'.cell? ⟨gb280, 1, none⟩ = some (.int .i64 x281001_1) ∧ w'.cell? ⟨gb280, 2, none⟩ = some (.int .i64 x281002_1) ∧ w'.cell? ⟨gb280, 3, none⟩ = some (.int .i64 x281003_1)) (ds := [15]) (bv_ 16 0) (by kernel_rfl) rfl rfl ⟨cz_ BK280 0, cz_ BK280 1, cz_ BK280 2, cz_ BK280 3⟩ (fun hHeld => ?_); refine with_tabW spec_DrawReduceMatrix.tab8 spec_DrawReduceMatrix.bits8 (fun HT_ HW_ => ?_)
     generalize wr.drew = w28 at BK269 BK280 HB hHeld ⊢
     refine px_ HT_ 0 20 1 ?_
     refine px_ HT_ 1 21 3 ?_
     refine px_ HT_ 2 22 7 ?_
     refine px_ HT_ 3 23 15 ?_
     refine px_ HT_ 4 24 31 ?_
     refine px_ HT_ 5 25 63 ?_
     refine px_ HT_ 6 26 127 ?_
     refine px_ HT_ 7 27 255 ?_
     refine px_ HT_ 8 28 511 ?_
     refine px_ HT_ 9 29 1023 ?_
     refine px_ HT_ 11 31 3071 ?_
     refine px_ HT_ 13 33 11263 ?_
     refine ta_ HT_ HW_ 10 (some 30) (bv_ 16 12287) hHeld ?_ (hy := by rintro w' ⟨s0, s1, s2, s3⟩; go_simp; with_reducible rfl)
     refine px_ HT_ 12 32 16383 ?_
     refine px_ HT_ 14 34 32767 ?_
     refine last_ (i := 15) (N := none) (bv_ 16 65535) rfl rfl (one_of HT_.out (by kernel_rfl)) (by decide) (fun K hK => ?_)
     have hs29 : w28.cell? ⟨gb280, 2, none⟩ = some (.int .i64 x281002_1) := (blk_cell BK280.out 2).trans rfl
     have hfs29 := blk_frozen BK280.out 2
     have hns29_0 := NB269_280.out
     have hms29_0 := NB280_269.out
     refine skip_ (w1 := ?_) (by rfl) rfl ?_ ?_
     rotate_left
     ·go_simp
      rfl
     refine hK.out _ _ ?_
     clear hK K
     refine done_ (done_of HT_.out (by kernel_rfl)) ?_
     try go_wp2
     go_roundg k1
     case measure => have := HK1.out; omega
     case rel => exact ⟨(wrap64 (2 + 1)), (x281000_1), (x281001_1), (wrap64 (x281002_1 * t284)), (x281003_1), en_, H', ⟨by have := HK1.out; omega⟩, fl_ BK269 NB269_280, bp_ BK280, bw_ HB⟩
    rw [if_neg c27] at H
    have c27b0 : (x6_1 == 2) = false := beq_eq_false_iff_ne.mpr c27
    have c27b1 : (x6_1 != 2) = true := bne_iff_ne.mpr c27
    by_cases c30 : x6_1 = 3
    ·subst c30
     replace H := i1_ H
     have H' := Aside0.mk H
     clear H
     try go_wp2
     replace BK269 := bd_ BK269
     replace BK280 := bd_ BK280
     replace HB := be_ HB
     refine start_ (n := 16) (S := fun w' => w'.cell? ⟨gb280, 0, none⟩ = some (.int .i64 x281000_1) ∧ w'.cell? ⟨gb280, 1, none⟩ = some (.int .i64 x281001_1) ∧ w'.cell? ⟨gb280, 2, none⟩ = some (.int .i64 x281002_1) ∧ w'.cell? ⟨gb280, 3, none⟩ = some (.int .i64 x281003_1)) (ds := [15]) (bv_ 16 0) (by kernel_rfl) rfl rfl ⟨cz_ BK280 0, cz_ BK280 1, cz_ BK280 2, cz_ BK280 3⟩ (fun hHeld => ?_); refine with_tabW spec_DrawReduceMatrix.tab8 spec_DrawReduceMatrix.bits8 (fun HT_ HW_ => ?_)
     generalize wr.drew = w31 at BK269 BK280 HB hHeld ⊢
     refine px_ HT_ 0 20 1 ?_
     refine px_ HT_ 1 21 3 ?_
     refine px_ HT_ 2 22 7 ?_
     refine px_ HT_ 3 23 15 ?_
     refine px_ HT_ 4 24 31 ?_
     refine px_ HT_ 5 25 63 ?_
     refine px_ HT_ 6 26 127 ?_
     refine px_ HT_ 7 27 255 ?_
     refine px_ HT_ 8 28 511 ?_
     refine px_ HT_ 9 29 1023 ?_
     refine px_ HT_ 11 31 3071 ?_
     refine px_ HT_ 13 33 11263 ?_
     refine ta_ HT_ HW_ 10 (some 30) (bv_ 16 12287) hHeld ?_ (hy := by rintro w' ⟨s0, s1, s2, s3⟩; go_simp; with_reducible rfl)
     refine px_ HT_ 12 32 16383 ?_
     refine px_ HT_ 14 34 32767 ?_
     refine last_ (i := 15) (N := none) (bv_ 16 65535) rfl rfl (one_of HT_.out (by kernel_rfl)) (by decide) (fun K hK => ?_)
     have hs32 : w31.cell? ⟨gb280, 3, none⟩ = some (.int .i64 x281003_1) := (blk_cell BK280.out 3).trans rfl
     have hfs32 := blk_frozen BK280.out 3
     have hns32_0 := NB269_280.out
     have hms32_0 := NB280_269.out
     refine skip_ (w1 := ?_) (by rfl) rfl ?_ ?_
     rotate_left
     ·go_simp
      rfl
     refine hK.out _ _ ?_
     clear hK K
     refine done_ (done_of HT_.out (by kernel_rfl)) ?_
     try go_wp2
     go_roundg k1
     case measure => have := HK1.out; omega
     case rel => exact ⟨(wrap64 (3 + 1)), (x281000_1), (x281001_1), (x281002_1), (wrap64 (x281003_1 * t284)), en_, H', ⟨by have := HK1.out; omega⟩, fl_ BK269 NB269_280, bp_ BK280, bw_ HB⟩
    rw [if_neg c30] at H
    exact absurd H (by simp)
   simp only [Option.some.injEq, Prod.mk.injEq] at H
   obtain ⟨rfl, rfl, rfl, rfl⟩ := H
   have hnb33 := NB280_269.out
   have hnc33 := NB269_280.out
   obtain ⟨hcz34_0, hcz34_1, hcz34_2, hcz34_3, hfz34_0, hfz34_1, hfz34_2, hfz34_3⟩ := ch4_ BK280
   obtain ⟨hcz35_0, hcz35_1, hcz35_2, hcz35_3, hfz35_0, hfz35_1, hfz35_2, hfz35_3⟩ := ch4_ BK269
   go_wp2
   refine bodyPost_ret (results_cell_row rfl _ _ gb269 26 #[.int .i64 x281000_1, .int .i64 x281001_1, .int .i64 x281002_1, .int .i64 x281003_1] (0, 0) _ rfl (bp_ BK269).out Try.underlying26 rfl (by kernel_rfl)) rfl ?_
   exact ⟨es_, (bw_ HB).out⟩
 simp only [Option.some.injEq, Prod.mk.injEq] at H
 obtain ⟨rfl, rfl, rfl, rfl⟩ := H
 go_enter Try.func10, Try.ntmps10
 go_wp2_with (first | ((refine gd_ 2 ?_); refine by_ 2 #[.int .i64 0, .int .i64 0, .int .i64 0, .int .i64 0] 26 HB ?_; intro gb269 hg w36 BK269 hb GW269 HB_; replace HB := HB_; clear hb hg) | ((refine gc_ 22 ?_); refine ge_ 8 Try.func22 #[.slice A0 l0.length c0] ?_; (with_reducible refine (spec_l01From.calls k _ _ l0 t270 t271 t272 w _ ?side1 ?side2 ?side3 A2.out).mono ?_); (case side1 => repeat (first | (with_reducible first | exact HB.out | apply below_alloc | apply pw_below_drewN | apply below_drew1 | refine below_set ?_ GW269.out) | exact HB.out)); (case side2 => exact HR0.out); (case side3 => exact HC0.out); rintro e w37 ⟨g273, rfl, hi, hb, hb2⟩; refine ⟨_, rfl, ?_⟩; have HI273 := Aside0.mk (hi); have NB273_269 := Aside0.mk (IsS55.ne_blk hi (blk_below (g := gb269) (o := .cells #[.int .i64 0, .int .i64 0, .int .i64 0, .int .i64 0] 26 (0, 0)) (bl_ BK269).out hb2) (by decide)); have NB269_273 := Aside0.mk (Ne.symm (IsS55.ne_blk hi (blk_below (g := gb269) (o := .cells #[.int .i64 0, .int .i64 0, .int .i64 0, .int .i64 0] 26 (0, 0)) (bl_ BK269).out hb2) (by decide))); replace BK269 := Aside0.mk (blk_below (g := gb269) (o := .cells #[.int .i64 0, .int .i64 0, .int .i64 0, .int .i64 0] 26 (0, 0)) (bl_ BK269).out hb2); replace HB := Aside0.mk (hb); (try clear hb); (try clear hb2); (try clear hi)) | ((refine gc_ 23 ?_); refine ge_ 10 Try.func23 #[.pointer (some ⟨g273, 0, none⟩)] ?_; (with_reducible refine (spec_l04Draw.calls k g273 t270 t271 t272 t274 t275 t276 t277 t278 t279 w _ ?side1 ?side2 A3.out).mono ?_); (case side1 => repeat (first | (with_reducible first | exact HI273.out | apply IsS55.alloc | apply IsS55.drewN | apply IsS55.drew | apply IsS55.set_1 | apply IsS55.set_2 | refine IsS55.far ?_ NB273_269.out _) | exact HI273.out)); (case side2 => repeat (first | (with_reducible first | exact HB.out | apply below_alloc | apply pw_below_drewN | apply below_drew1 | refine below_set ?_ (IsS55.ge HI273.out) | refine below_set ?_ GW269.out) | exact HB.out)); rintro e w38 ⟨rfl, hi, hb, hk⟩; refine ⟨_, rfl, ?_⟩; replace BK269 := Aside0.mk (KeepBut.blk hk (g' := gb269) (o := .cells #[.int .i64 0, .int .i64 0, .int .i64 0, .int .i64 0] 26 (0, 0)) (bl_ BK269).out NB269_273.out (by simp)); replace HB := Aside0.mk (hb); replace HI273 := Aside0.mk (hi); (try clear hb); (try clear hk); (try clear hi)) | ((refine gd_ 4 ?_); refine bx_ 4 #[.int .i64 0, .int .i64 0, .int .i64 0, .int .i64 0] 26 ?_; intro gb280 hg w39 BK280 hb; have GW280 := Aside0.mk ((by rw [hg]; exact (below_size (by repeat (first | (with_reducible first | exact HB.out | apply below_alloc | apply pw_below_drewN | apply below_drew1 | refine below_set ?_ (IsS55.ge HI273.out) | refine below_set ?_ GW269.out) | exact HB.out))) : w.heap.size ≤ gb280)); have GE280 := Aside0.mk ((by rw [hg]; exact (below_size (by repeat (first | (with_reducible first | exact HB.out | apply below_alloc | apply pw_below_drewN | apply below_drew1 | refine below_set ?_ (IsS55.ge HI273.out) | refine below_set ?_ GW269.out) | exact HB.out))) : w.heap.size ≤ gb280)); have NB269_280 := bm_ BK269 hg; have NB280_269 := bn_ BK269 hg; have NB273_280 := Aside0.mk ((by rw [hg]; exact Nat.ne_of_lt (IsS55.lt (show IsS55 w _ g273 t270 t278 t279 from by repeat (first | (with_reducible first | exact HI273.out | apply IsS55.alloc | apply IsS55.drewN | apply IsS55.drew | apply IsS55.set_1 | apply IsS55.set_2 | refine IsS55.far ?_ NB273_269.out _) | exact HI273.out))) : g273 ≠ gb280)); have NB280_273 := Aside0.mk ((by rw [hg]; exact Nat.ne_of_gt (IsS55.lt (show IsS55 w _ g273 t270 t278 t279 from by repeat (first | (with_reducible first | exact HI273.out | apply IsS55.alloc | apply IsS55.drewN | apply IsS55.drew | apply IsS55.set_1 | apply IsS55.set_2 | refine IsS55.far ?_ NB273_269.out _) | exact HI273.out))) : gb280 ≠ g273)); replace BK269 := bb_ BK269 hb; replace HB := Aside0.mk (below_step (by repeat (first | (with_reducible first | exact HB.out | apply below_alloc | apply pw_below_drewN | apply below_drew1 | refine below_set ?_ (IsS55.ge HI273.out) | refine below_set ?_ GW269.out) | exact HB.out)) hb); replace HI273 := Aside0.mk (IsS55.below (by repeat (first | (with_reducible first | exact HI273.out | apply IsS55.alloc | apply IsS55.drewN | apply IsS55.drew | apply IsS55.set_1 | apply IsS55.set_2 | refine IsS55.far ?_ NB273_269.out _) | exact HI273.out)) hb); clear hb hg; have hnb40 := NB280_269.out; have hnc40 := NB269_280.out; have hnb41 := NB280_273.out; have hnc41 := NB273_280.out; obtain ⟨hcz42_0, hcz42_1, hcz42_2, hcz42_3, hfz42_0, hfz42_1, hfz42_2, hfz42_3⟩ := ch4_ BK280) | ((refine gd_ 12 ?_); refine Kd.R_lit (Kd.int .i64) _ 2 ?hg (N := 12) ?hd (xs := ([1, 1, 2, (-1), (-6)] : List Int)) (inner := [.int .i64 1, .int .i64 1, .int .i64 2, .int .i64 (-1), .int .i64 (-6)]) (ok := fun _ => True) (okp := fun _ => True) ?hr ?hp (fun _ hk => hk) trivial (Below.refl _ _) (Nat.le_refl _) (by simp) ?_; (case hd => rfl); (case hg => rfl); (case hr => first | (go_simp; done) | (go_simp; rfl)); (case hp => exact (Reps.one (show Kd.M (Kd.int .i64) _ _ _ 1 [.int .i64 1] from rfl) (Reps.one (show Kd.M (Kd.int .i64) _ _ _ 1 [.int .i64 1] from rfl) (Reps.one (show Kd.M (Kd.int .i64) _ _ _ 2 [.int .i64 2] from rfl) (Reps.one (show Kd.M (Kd.int .i64) _ _ _ (-1) [.int .i64 (-1)] from rfl) (Reps.one (show Kd.M (Kd.int .i64) _ _ _ (-6) [.int .i64 (-6)] from rfl) (Reps.none _ _))))))); intro v282 w43 ho44 hb hg_ hnew_; clear hg_ hnew_; (first | rw [← Ny281.out] at ho44 | (simp only [Int.reduceToNat] at ho44; rw [← Ny281.out] at ho44)); have HO283 := Aside0.mk (Kd.R_lower ho44 (below_size (by repeat (first | (with_reducible first | exact HB.out | apply below_alloc | apply pw_below_drewN | apply below_drew1 | refine below_set ?_ (IsS55.ge HI273.out) | refine below_set ?_ GW269.out | refine below_set ?_ GE280.out) | exact HB.out)))); replace BK269 := fb_ BK269 NB269_280 hb; replace BK280 := Aside0.mk (blk_below (g := gb280) (o := .cells #[.int .i64 t274, .int .i64 t275, .int .i64 t276, .int .i64 t277] 26 (0, 0)) (bp_ BK280).out hb); replace HB := Aside0.mk (below_step (by repeat (first | (with_reducible first | exact HB.out | apply below_alloc | apply pw_below_drewN | apply below_drew1 | refine below_set ?_ (IsS55.ge HI273.out) | refine below_set ?_ GW269.out | refine below_set ?_ GE280.out) | exact HB.out)) hb); replace HI273 := Aside0.mk (IsS55.below (show IsS55 w ((((w39.setCell ⟨gb280, 0, none⟩ (.int .i64 t274)).setCell ⟨gb280, 1, none⟩ (.int .i64 t275)).setCell ⟨gb280, 2, none⟩ (.int .i64 t276)).setCell ⟨gb280, 3, none⟩ (.int .i64 t277)) g273 t270 t278 t279 from by repeat (first | (with_reducible first | exact HI273.out | apply IsS55.alloc | apply IsS55.drewN | apply IsS55.drew | apply IsS55.set_1 | apply IsS55.set_2 | refine IsS55.far ?_ NB273_269.out _ | refine IsS55.far ?_ NB273_280.out _) | exact HI273.out)) hb); clear hb ho44; obtain ⟨Ao45, co45, eo45⟩ := Kd.R_slice HO283.out; subst eo45) | ((refine gc_ 31 ?_); refine ge_ 13 Try.func31 #[.pointer (some ⟨g273, 0, none⟩), .slice Ao45 y281.length co45] ?_; (with_reducible refine (spec_l01Pick.calls g273 t270 t278 t279 _ _ y281 t284 t285 t286 w _ ?side1 ?side2 ?side3 ?side4 ?side5 A4.out).mono ?_); (case side1 => repeat (first | (with_reducible first | exact HI273.out | apply IsS55.alloc | apply IsS55.drewN | apply IsS55.drew | apply IsS55.set_1 | apply IsS55.set_2 | refine IsS55.far ?_ NB273_269.out _ | refine IsS55.far ?_ NB273_280.out _) | exact HI273.out)); (case side2 => repeat (first | (with_reducible first | exact HB.out | apply below_alloc | apply pw_below_drewN | apply below_drew1 | refine below_set ?_ (IsS55.ge HI273.out) | refine below_set ?_ GW269.out | refine below_set ?_ GE280.out) | exact HB.out)); (case side3 => exact ca_ (Kd.R_reads' HO283.out).2.2); (case side4 => exact (Kd.R_reads' HO283.out).2.1); (case side5 => exact far_slice (IsS55.own_ne HI273.out HO283.out (by decide))); rintro e w46 ⟨rfl, hi, hb, hk⟩; refine ⟨_, rfl, ?_⟩; replace BK269 := Aside0.mk (KeepBut.blk hk (g' := gb269) (o := .cells #[.int .i64 0, .int .i64 0, .int .i64 0, .int .i64 0] 26 (0, 0)) (bl_ BK269).out NB269_273.out (by simp)); replace BK280 := Aside0.mk (KeepBut.blk hk (g' := gb280) (o := .cells #[.int .i64 t274, .int .i64 t275, .int .i64 t276, .int .i64 t277] 26 (0, 0)) (bl_ BK280).out NB280_273.out (by simp)); replace HO283 := Aside0.mk (Kd.R_mono (Kd.R_keep (IsS55.apart (show IsS55 w _ g273 t270 t278 t279 from by repeat (first | (with_reducible first | exact HI273.out | apply IsS55.alloc | apply IsS55.drewN | apply IsS55.drew | apply IsS55.set_1 | apply IsS55.set_2 | refine IsS55.far ?_ NB273_269.out _ | refine IsS55.far ?_ NB273_280.out _) | exact HI273.out)) (ra_ HO283.out) (by decide)) hk (fun _ h => h.2)) (fun _ h => h.1)); replace HB := Aside0.mk (hb); replace HI273 := Aside0.mk (hi); (try clear hb); (try clear hk); (try clear hi); obtain ⟨hcz47_0, hcz47_1, hcz47_2, hcz47_3, hfz47_0, hfz47_1, hfz47_2, hfz47_3⟩ := ch4_ BK280) | ((refine gc_ 27 ?_); refine ge_ 15 Try.func27 #[.agg #[.int .i64 t274, .int .i64 t275, .int .i64 t276, .int .i64 t277]] ?_; (with_reducible refine (spec_l04Is.calls k t274 t275 t276 t277 false _ A5.out).mono ?_); rintro e w48 ⟨rfl, hb⟩; refine ⟨_, rfl, ?_⟩; replace HO283 := rb_ HO283 hb; replace BK269 := bb_ BK269 hb; replace BK280 := bb_ BK280 hb; replace HB := Aside0.mk (below_step (by repeat (first | (with_reducible first | exact HB.out | apply below_alloc | apply pw_below_drewN | apply below_drew1 | refine below_set ?_ (IsS55.ge HI273.out) | refine below_set ?_ GW269.out | refine below_set ?_ GE280.out) | exact HB.out)) hb); replace HI273 := Aside0.mk (IsS55.below (by repeat (first | (with_reducible first | exact HI273.out | apply IsS55.alloc | apply IsS55.drewN | apply IsS55.drew | apply IsS55.set_1 | apply IsS55.set_2 | refine IsS55.far ?_ NB273_269.out _ | refine IsS55.far ?_ NB273_280.out _) | exact HI273.out)) hb); (try clear hb); obtain ⟨hcz49_0, hcz49_1, hcz49_2, hcz49_3, hfz49_0, hfz49_1, hfz49_2, hfz49_3⟩ := ch4_ BK280; have hnb50 := NB269_273.out; have hnc50 := NB273_269.out; obtain ⟨hcz51_0, hcz51_1, hcz51_2, hcz51_3, hfz51_0, hfz51_1, hfz51_2, hfz51_3⟩ := ch4_ BK269))
 refine bodyPost_ret (results_cell_row rfl _ _ gb269 26 #[.int .i64 t274, .int .i64 t275, .int .i64 t276, .int .i64 t277] (0, 0) _ rfl (bp_ BK269).out Try.underlying26 rfl (by kernel_rfl)) rfl ?_
 exact ⟨es_, by repeat (first | (with_reducible first | exact HB.out | apply below_alloc | apply pw_below_drewN | apply below_drew1 | refine below_set ?_ (IsS55.ge HI273.out) | refine below_set ?_ GW269.out | refine below_set ?_ GE280.out) | exact HB.out)⟩
/-! ### impl_reduce: function 32 -/
def impl_reduce.f (k : Nat) (a0_0 a0_1 a0_2 a0_3 : Int) : Option (Int × Int × Int × Int) := (impl_reduced.f k a0_0 a0_1 a0_2 a0_3).bind fun bt290 => (some (bt290.1, bt290.2.1, bt290.2.2.1, bt290.2.2.2.1))
theorem impl_reduce.calls (k : Nat) (a0_0 a0_1 a0_2 a0_3 r1 r2 r3 r4 : Int) (w : World) (h : impl_reduce.f k a0_0 a0_1 a0_2 a0_3 = some (r1, r2, r3, r4)) :
  Calls Try.prog 32 #[.agg #[.int .i64 a0_0, .int .i64 a0_1, .int .i64 a0_2, .int .i64 a0_3]] w fun e w' => e = .returned (.agg #[.int .i64 r1, .int .i64 r2, .int .i64 r3, .int .i64 r4]) ∧ Below w.heap.size w w' := by
 have hu26 := Try.underlying26
 have HB := Aside0.mk (Below.refl w.heap.size w)
 unfold impl_reduce.f at h
 have H := h
 clear h
 replace H := oc_ H
 obtain ⟨⟨t290, t291, t292, t293, t294⟩, A2, H⟩ := H
 simp only [Option.some.injEq, Prod.mk.injEq] at H
 obtain ⟨rfl, rfl, rfl, rfl⟩ := H
 go_enter Try.func32, Try.ntmps32
 go_wp2_with (first | ((refine gd_ 1 ?_); refine by_ 1 #[.int .i64 a0_0, .int .i64 a0_1, .int .i64 a0_2, .int .i64 a0_3] 26 HB ?_; intro gb288 hg w3 BK288 hb GW288 HB_; replace HB := HB_; clear hb hg) | ((refine gd_ 2 ?_); refine by_ 2 #[.int .i64 0, .int .i64 0, .int .i64 0, .int .i64 0] 26 HB ?_; intro gb289 hg w4 BK289 hb GW289 HB_; have NB288_289 := bm_ BK288 hg; have NB289_288 := bn_ BK288 hg; replace BK288 := bb_ BK288 hb; replace HB := HB_; clear hb hg; have hnb5 := NB288_289.out; have hnc5 := NB289_288.out; obtain ⟨hcz6_0, hcz6_1, hcz6_2, hcz6_3, hfz6_0, hfz6_1, hfz6_2, hfz6_3⟩ := ch4_ BK288) | ((refine gc_ 40 ?_); refine ge_ 7 Try.func40 #[.agg #[.int .i64 a0_0, .int .i64 a0_1, .int .i64 a0_2, .int .i64 a0_3]] ?_; (with_reducible refine (impl_reduced.calls k a0_0 a0_1 a0_2 a0_3 t290 t291 t292 t293 t294 _ A2.out).mono ?_); rintro e w7 ⟨rfl, hb⟩; refine ⟨_, rfl, ?_⟩; replace BK288 := bb_ BK288 hb; replace BK289 := bb_ BK289 hb; replace HB := bt_ HB hb; (try clear hb)) | ((refine gd_ 3 ?_); refine by_ 3 #[.int .i64 0, .int .i64 0, .int .i64 0, .int .i64 0] 26 HB ?_; intro gb295 hg w8 BK295 hb GW295 HB_; have NB288_295 := bm_ BK288 hg; have NB295_288 := bn_ BK288 hg; have NB289_295 := bm_ BK289 hg; have NB295_289 := bn_ BK289 hg; replace BK288 := bb_ BK288 hb; replace BK289 := bb_ BK289 hb; replace HB := HB_; clear hb hg; have hnb9 := NB295_288.out; have hnc9 := NB288_295.out; have hnb10 := NB295_289.out; have hnc10 := NB289_295.out; obtain ⟨hcz11_0, hcz11_1, hcz11_2, hcz11_3, hfz11_0, hfz11_1, hfz11_2, hfz11_3⟩ := ch4_ BK295; obtain ⟨hcz12_0, hcz12_1, hcz12_2, hcz12_3, hfz12_0, hfz12_1, hfz12_2, hfz12_3⟩ := ch4_ BK289))
 refine bodyPost_ret (results_cell_row rfl _ _ gb289 26 #[.int .i64 t290, .int .i64 t291, .int .i64 t292, .int .i64 t293] (0, 0) _ rfl (bp_ BK289).out Try.underlying26 rfl (by kernel_rfl)) rfl ?_
 exact ⟨es_, (bw_ HB).out⟩
end Go.Proofs.Yteniblbnmcfmjaa.QM
