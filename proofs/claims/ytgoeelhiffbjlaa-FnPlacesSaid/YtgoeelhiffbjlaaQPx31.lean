import Derived.Test.YtgoeelhiffbjlaaQPx9
import Derived.Test.YtgoeelhiffbjlaaQPx13
import Derived.Test.YtgoeelhiffbjlaaQPx20
import Derived.Test.YtgoeelhiffbjlaaQPx25
namespace Go.Proofs.Ytgoeelhiffbjlaa.QP
set_option maxHeartbeats 8000000
set_option maxRecDepth 100000
open Go.RowKit Go.Proofs.YtgoeelhiffbjlaaW.PrintWords Go.Proofs.YtgoeelhiffbjlaaW.PrintLast Go.Proofs.YtgoeelhiffbjlaaW.PrintMore
attribute [local go_sem] isSome_setCell max2_int min2_int max_two min_two max_three min_three max_four min_four
set_option linter.unusedVariables false
set_option linter.unusedSimpArgs false

/-! ### spec_l01Near: function 110 -/
def spec_l01Near.f (s0_0 : List Int) (s0_1 s0_2 a1 : Int) : Option (Int × Int × Int) := (spec_l01Next.f s0_0 s0_1 s0_2 14).bind fun bt238 => (if bt238.1 = 0 then ((spec_l01Pick.f s0_0 bt238.2.1 bt238.2.2 (([(-1), wrap64 (a1 + 1), 1099511627776, (-4611686018427387904)] : List Int))).bind fun bt244 => (some (bt244.1, bt244.2.1, bt244.2.2))) else ((spec_l01Next.f s0_0 bt238.2.1 bt238.2.2 (wrap64 (a1 + 1))).bind fun bt247 => (some (bt247.1, bt247.2.1, bt247.2.2))))
theorem spec_l01Near.calls (g : Nat) (s0_0 : List Int) (s0_1 s0_2 a1 r1 r2 r3 : Int) (w0 w : World) (hI : IsS164 w0 w g s0_0 s0_1 s0_2) (hB : Below w0.heap.size w0 w) (h : spec_l01Near.f s0_0 s0_1 s0_2 a1 = some (r1, r2, r3)) :
  Calls Try.prog 110 #[.pointer (some ⟨g, 0, none⟩), .int .i64 a1] w fun e w' => e = .returned (.int .i64 r1) ∧ IsS164 w0 w' g s0_0 r2 r3 ∧ Below w0.heap.size w0 w' ∧ KeepBut w w' g none := by
 have HI0 := Aside0.mk hI
 have HK := Aside0.mk (KeepBut.refl w g none)
 have HL := Aside0.mk hB.size
 clear hI
 have HW0 := Aside0.mk hB.size
 have HB := Aside0.mk hB
 clear hB
 unfold spec_l01Near.f at h
 have H := h
 clear h
 replace H := oc_ H
 obtain ⟨⟨t238, t239, t240⟩, A3, H⟩ := H
 replace H := ie_ H
 rcases H with ⟨c4b0, c4b1, H⟩ | ⟨c4, c4b0, c4b1, H⟩
 ·obtain ⟨y241, hy241⟩ : ∃ y_ : List Int, y_ = (([(-1), wrap64 (a1 + 1), 1099511627776, (-4611686018427387904)] : List Int)) := ⟨_, rfl⟩
  replace H : ((spec_l01Pick.f s0_0 t239 t240 y241).bind fun bt244 => (some (bt244.1, bt244.2.1, bt244.2.2))) = some (r1, r2, r3) := by first | (rw [hy241]; with_reducible exact H) | (have H2_ := (Option.bind_some _ _).symm.trans H; rw [hy241]; with_reducible exact H2_) | (have H2_ := (Option.bind_some _ _).symm.trans H; with_reducible exact H2_) | with_reducible exact H | (rw [hy241]; exact H) | exact H
  have Ny241 := Aside0.mk hy241
  clear hy241
  replace H := oc_ H
  obtain ⟨⟨t244, t245, t246⟩, A5, H⟩ := H
  simp only [Option.some.injEq, Prod.mk.injEq] at H
  obtain ⟨rfl, rfl, rfl⟩ := H
  go_enter Try.func110, Try.ntmps110
  go_wp2_with (first | ((refine gc_ 108 ?_); refine ge_ 6 Try.func108 #[.pointer (some ⟨g, 0, none⟩), .int .i64 14] ?_; (with_reducible refine (spec_l01Next.calls g s0_0 s0_1 s0_2 14 t238 t239 t240 w0 _ ?side1 ?side2 A3.out).mono ?_); (case side1 => repeat (first | (with_reducible first | exact HI0.out | apply IsS164.alloc | apply IsS164.drewN | apply IsS164.drew | apply IsS164.set_1 | apply IsS164.set_2) | exact HI0.out)); (case side2 => repeat (first | (with_reducible first | exact HB.out | apply below_alloc | apply pw_below_drewN | apply below_drew1 | refine below_set ?_ (IsS164.ge HI0.out)) | exact HB.out)); rintro e w6 ⟨rfl, hi, hb, hk⟩; refine ⟨_, rfl, ?_⟩; replace HK := Aside0.mk (KeepBut.trans (by repeat (first | (with_reducible first | exact HK.out | apply KeepBut.set_ | apply keep_drewN | apply keep_drew | apply keep_alloc) | exact HK.out)) hk (.inl rfl)); replace HB := Aside0.mk (hb); replace HI0 := Aside0.mk (hi); (try clear hb); (try clear hk); (try clear hi)) | ((refine gd_ 11 ?_); refine Kd.R_lit (Kd.int .i64) _ 2 ?hg (N := 11) ?hd (xs := ([(-1), wrap64 (a1 + 1), 1099511627776, (-4611686018427387904)] : List Int)) (inner := [.int .i64 (-1), .int .i64 (wrap64 (a1 + 1)), .int .i64 1099511627776, .int .i64 (-4611686018427387904)]) (ok := fun _ => True) (okp := fun _ => True) ?hr ?hp (fun _ hk => hk) trivial (Below.refl _ _) (Nat.le_refl _) (by simp) ?_; (case hd => rfl); (case hg => rfl); (case hr => first | (go_simp; done) | (go_simp; rfl)); (case hp => exact (Reps.one (show Kd.M (Kd.int .i64) _ _ _ (-1) [.int .i64 (-1)] from rfl) (Reps.one (show Kd.M (Kd.int .i64) _ _ _ (wrap64 (a1 + 1)) [.int .i64 (wrap64 (a1 + 1))] from rfl) (Reps.one (show Kd.M (Kd.int .i64) _ _ _ 1099511627776 [.int .i64 1099511627776] from rfl) (Reps.one (show Kd.M (Kd.int .i64) _ _ _ (-4611686018427387904) [.int .i64 (-4611686018427387904)] from rfl) (Reps.none _ _)))))); intro v242 w7 ho8 hb hg_ hnew_; clear hg_ hnew_; (first | rw [← Ny241.out] at ho8 | (simp only [Int.reduceToNat] at ho8; rw [← Ny241.out] at ho8)); have HO243 := Aside0.mk (Kd.R_lower ho8 (keep_size (w := w) (g := g) (row := none) (by repeat (first | (with_reducible first | exact HK.out | apply KeepBut.set_ | apply keep_drewN | apply keep_drew | apply keep_alloc) | exact HK.out)))); replace HK := Aside0.mk (KeepBut.trans (by repeat (first | (with_reducible first | exact HK.out | apply KeepBut.set_ | apply keep_drewN | apply keep_drew | apply keep_alloc) | exact HK.out)) (KeepBut.of_below hb g none) (.inl rfl)); replace HB := Aside0.mk (below_step (by repeat (first | (with_reducible first | exact HB.out | apply below_alloc | apply pw_below_drewN | apply below_drew1 | refine below_set ?_ (IsS164.ge HI0.out)) | exact HB.out)) hb); replace HI0 := Aside0.mk (IsS164.below (by repeat (first | (with_reducible first | exact HI0.out | apply IsS164.alloc | apply IsS164.drewN | apply IsS164.drew | apply IsS164.set_1 | apply IsS164.set_2) | exact HI0.out)) hb); clear hb ho8; obtain ⟨Ao9, co9, eo9⟩ := Kd.R_slice HO243.out; subst eo9) | ((refine gc_ 104 ?_); refine ge_ 12 Try.func104 #[.pointer (some ⟨g, 0, none⟩), .slice Ao9 y241.length co9] ?_; (with_reducible refine (spec_l01Pick.calls g s0_0 t239 t240 _ _ y241 t244 t245 t246 w0 _ ?side1 ?side2 ?side3 ?side4 ?side5 A5.out).mono ?_); (case side1 => repeat (first | (with_reducible first | exact HI0.out | apply IsS164.alloc | apply IsS164.drewN | apply IsS164.drew | apply IsS164.set_1 | apply IsS164.set_2) | exact HI0.out)); (case side2 => repeat (first | (with_reducible first | exact HB.out | apply below_alloc | apply pw_below_drewN | apply below_drew1 | refine below_set ?_ (IsS164.ge HI0.out)) | exact HB.out)); (case side3 => exact ca_ (Kd.R_reads' HO243.out).2.2); (case side4 => exact (Kd.R_reads' HO243.out).2.1); (case side5 => exact far_slice (IsS164.own_ne HI0.out HO243.out (by decide))); rintro e w10 ⟨rfl, hi, hb, hk⟩; refine ⟨_, rfl, ?_⟩; replace HO243 := Aside0.mk (Kd.R_mono (Kd.R_keep (IsS164.apart (show IsS164 w0 _ g s0_0 t239 t240 from by repeat (first | (with_reducible first | exact HI0.out | apply IsS164.alloc | apply IsS164.drewN | apply IsS164.drew | apply IsS164.set_1 | apply IsS164.set_2) | exact HI0.out)) (ra_ HO243.out) (by decide)) hk (fun _ h => h.2)) (fun _ h => h.1)); replace HK := Aside0.mk (KeepBut.trans (by repeat (first | (with_reducible first | exact HK.out | apply KeepBut.set_ | apply keep_drewN | apply keep_drew | apply keep_alloc) | exact HK.out)) hk (.inl rfl)); replace HB := Aside0.mk (hb); replace HI0 := Aside0.mk (hi); (try clear hb); (try clear hk); (try clear hi)))
  go_ret
  exact ⟨es_, by repeat (first | (with_reducible first | exact HI0.out | apply IsS164.alloc | apply IsS164.drewN | apply IsS164.drew | apply IsS164.set_1 | apply IsS164.set_2) | exact HI0.out), by repeat (first | (with_reducible first | exact HB.out | apply below_alloc | apply pw_below_drewN | apply below_drew1 | refine below_set ?_ (IsS164.ge HI0.out)) | exact HB.out), by repeat (first | (with_reducible first | exact HK.out | apply KeepBut.set_ | apply keep_drewN | apply keep_drew | apply keep_alloc) | exact HK.out)⟩
 replace H := oc_ H
 obtain ⟨⟨t247, t248, t249⟩, A11, H⟩ := H
 simp only [Option.some.injEq, Prod.mk.injEq] at H
 obtain ⟨rfl, rfl, rfl⟩ := H
 go_enter Try.func110, Try.ntmps110
 go_wp2_with (first | ((refine gc_ 108 ?_); refine ge_ 6 Try.func108 #[.pointer (some ⟨g, 0, none⟩), .int .i64 14] ?_; (with_reducible refine (spec_l01Next.calls g s0_0 s0_1 s0_2 14 t238 t239 t240 w0 _ ?side1 ?side2 A3.out).mono ?_); (case side1 => repeat (first | (with_reducible first | exact HI0.out | apply IsS164.alloc | apply IsS164.drewN | apply IsS164.drew | apply IsS164.set_1 | apply IsS164.set_2) | exact HI0.out)); (case side2 => repeat (first | (with_reducible first | exact HB.out | apply below_alloc | apply pw_below_drewN | apply below_drew1 | refine below_set ?_ (IsS164.ge HI0.out)) | exact HB.out)); rintro e w12 ⟨rfl, hi, hb, hk⟩; refine ⟨_, rfl, ?_⟩; replace HK := Aside0.mk (KeepBut.trans (by repeat (first | (with_reducible first | exact HK.out | apply KeepBut.set_ | apply keep_drewN | apply keep_drew | apply keep_alloc) | exact HK.out)) hk (.inl rfl)); replace HB := Aside0.mk (hb); replace HI0 := Aside0.mk (hi); (try clear hb); (try clear hk); (try clear hi)) | ((refine gc_ 108 ?_); refine ge_ 16 Try.func108 #[.pointer (some ⟨g, 0, none⟩), .int .i64 (wrap64 (a1 + 1))] ?_; (with_reducible refine (spec_l01Next.calls g s0_0 t239 t240 (wrap64 (a1 + 1)) t247 t248 t249 w0 _ ?side1 ?side2 A11.out).mono ?_); (case side1 => repeat (first | (with_reducible first | exact HI0.out | apply IsS164.alloc | apply IsS164.drewN | apply IsS164.drew | apply IsS164.set_1 | apply IsS164.set_2) | exact HI0.out)); (case side2 => repeat (first | (with_reducible first | exact HB.out | apply below_alloc | apply pw_below_drewN | apply below_drew1 | refine below_set ?_ (IsS164.ge HI0.out)) | exact HB.out)); rintro e w13 ⟨rfl, hi, hb, hk⟩; refine ⟨_, rfl, ?_⟩; replace HK := Aside0.mk (KeepBut.trans (by repeat (first | (with_reducible first | exact HK.out | apply KeepBut.set_ | apply keep_drewN | apply keep_drew | apply keep_alloc) | exact HK.out)) hk (.inl rfl)); replace HB := Aside0.mk (hb); replace HI0 := Aside0.mk (hi); (try clear hb); (try clear hk); (try clear hi)))
 go_ret
 exact ⟨es_, by repeat (first | (with_reducible first | exact HI0.out | apply IsS164.alloc | apply IsS164.drewN | apply IsS164.drew | apply IsS164.set_1 | apply IsS164.set_2) | exact HI0.out), by repeat (first | (with_reducible first | exact HB.out | apply below_alloc | apply pw_below_drewN | apply below_drew1 | refine below_set ?_ (IsS164.ge HI0.out)) | exact HB.out), by repeat (first | (with_reducible first | exact HK.out | apply KeepBut.set_ | apply keep_drewN | apply keep_drew | apply keep_alloc) | exact HK.out)⟩
/-! ### spec_DrawBallOfPlace: function 42 -/
def spec_DrawBallOfPlace.f (k : Nat) (l0 : List Int) : Option (Int × Int × Int × Int × Int) := (spec_l01From.f k l0).bind fun bt251 => ((spec_l01Spoil.f k bt251.1 bt251.2.1 bt251.2.2).bind fun bt255 => ((spec_l01Next.f bt251.1 bt255.2.2.2.2.1 bt255.2.2.2.2.2 12).bind fun bt262 => ((spec_l01Next.f bt251.1 bt262.2.1 bt262.2.2 60).bind fun bt265 => ((spec_l01Near.f bt251.1 bt265.2.1 bt265.2.2 500).bind fun bt268 => ((spec_l01Pick.f bt251.1 bt268.2.1 bt268.2.2 (([bt262.1, bt265.1, bt268.1] : List Int))).bind fun bt274 => (some (bt255.1, bt255.2.1, bt255.2.2.1, bt255.2.2.2.1, bt274.1)))))))
def spec_DrawBallOfPlace.T3 : Bool × List (List Nat × List Nat) := (true, [([], []), ([], []), ([], []), ([], []), ([3], [3]), ([], []), ([5, 4], [5]), ([], []), ([7, 6], [7]), ([4, 6, 8], [4, 6, 8]), ([2, 9, 8], [2, 9]), ([0, 10, 0], [0]), ([1, 11, 0, 1, 11], [1]), ([10, 12, 0, 1, 2, 3, 4, 5, 6, 7, 8, 9, 10, 11, 12], [10])])
def spec_DrawBallOfPlace.B3 : List Nat := [0, 0, 0, 0, 8, 0, 56, 0, 248, 504, 1020, 2045, 4095, 8191]
theorem spec_DrawBallOfPlace.tab3 : rtab .any (opsOf Try.f42 3) = spec_DrawBallOfPlace.T3 := by kernel_rfl
theorem spec_DrawBallOfPlace.bits3 : waitsOk spec_DrawBallOfPlace.T3.2 spec_DrawBallOfPlace.B3 = true := by kernel_rfl
theorem spec_DrawBallOfPlace.calls (k : Nat) (A0 : Option Addr) (c0 : Nat) (l0 : List Int) (r1 r2 r3 r4 r5 : Int) (w : World) (hr0 : Kd.C (Kd.int .u8) w A0 l0.length l0) (hc0 : l0.length ≤ c0) (h : spec_DrawBallOfPlace.f k l0 = some (r1, r2, r3, r4, r5)) :
  Calls Try.prog 42 #[.slice A0 l0.length c0] w fun e w' => e = .returned (.tuple #[.int .i64 r1, .agg #[.int .i64 r2, .int .i64 r3, .int .i64 r4], .int .i64 r5]) ∧ Below w.heap.size w w' := by
 have hu25 := Try.underlying25
 have HR0 := Aside0.mk hr0
 have HC0 := Aside0.mk hc0
 clear hr0 hc0
 have HB := Aside0.mk (Below.refl w.heap.size w)
 unfold spec_DrawBallOfPlace.f at h
 have H := h
 clear h
 replace H := oc_ H
 obtain ⟨⟨t251, t252, t253⟩, A2, H⟩ := H
 replace H := oc_ H
 obtain ⟨⟨t255, t256, t257, t258, t259, t260⟩, A3, H⟩ := H
 replace H := oc_ H
 obtain ⟨⟨t262, t263, t264⟩, A4, H⟩ := H
 replace H := oc_ H
 obtain ⟨⟨t265, t266, t267⟩, A5, H⟩ := H
 replace H := oc_ H
 obtain ⟨⟨t268, t269, t270⟩, A6, H⟩ := H
 obtain ⟨y271, hy271⟩ : ∃ y_ : List Int, y_ = (([t262, t265, t268] : List Int)) := ⟨_, rfl⟩
 replace H : ((spec_l01Pick.f t251 t269 t270 y271).bind fun bt274 => (some (t255, t256, t257, t258, bt274.1))) = some (r1, r2, r3, r4, r5) := by first | (rw [hy271]; with_reducible exact H) | (have H2_ := (Option.bind_some _ _).symm.trans H; rw [hy271]; with_reducible exact H2_) | (have H2_ := (Option.bind_some _ _).symm.trans H; with_reducible exact H2_) | with_reducible exact H | (rw [hy271]; exact H) | exact H
 have Ny271 := Aside0.mk hy271
 clear hy271
 replace H := oc_ H
 obtain ⟨⟨t274, t275, t276⟩, A7, H⟩ := H
 simp only [Option.some.injEq, Prod.mk.injEq] at H
 obtain ⟨rfl, rfl, rfl, rfl, rfl⟩ := H
 go_enter Try.func42, Try.ntmps42
 try go_wp2_with (first | ((refine gd_ 3 ?_); refine by_ 3 #[.int .i64 0, .int .i64 0, .int .i64 0] 25 HB ?_; intro gb250 hg w8 BK250 hb GW250 HB_; replace HB := HB_; clear hb hg) | ((refine gc_ 73 ?_); refine ge_ 9 Try.func73 #[.slice A0 l0.length c0] ?_; (with_reducible refine (spec_l01From.calls k _ _ l0 t251 t252 t253 w _ ?side1 ?side2 ?side3 A2.out).mono ?_); (case side1 => repeat (first | (with_reducible first | exact HB.out | apply below_alloc | apply pw_below_drewN | apply below_drew1 | refine below_set ?_ GW250.out) | exact HB.out)); (case side2 => exact HR0.out); (case side3 => exact HC0.out); rintro e w9 ⟨g254, rfl, hi, hb, hb2⟩; refine ⟨_, rfl, ?_⟩; have HI254 := Aside0.mk (hi); have NB254_250 := Aside0.mk (IsS164.ne_blk hi (blk_below (g := gb250) (o := .cells #[.int .i64 0, .int .i64 0, .int .i64 0] 25 (0, 0)) (bl_ BK250).out hb2) (by decide)); have NB250_254 := Aside0.mk (Ne.symm (IsS164.ne_blk hi (blk_below (g := gb250) (o := .cells #[.int .i64 0, .int .i64 0, .int .i64 0] 25 (0, 0)) (bl_ BK250).out hb2) (by decide))); replace BK250 := Aside0.mk (blk_below (g := gb250) (o := .cells #[.int .i64 0, .int .i64 0, .int .i64 0] 25 (0, 0)) (bl_ BK250).out hb2); replace HB := Aside0.mk (hb); (try clear hb); (try clear hb2); (try clear hi)) | ((refine gc_ 74 ?_); refine ge_ 12 Try.func74 #[.pointer (some ⟨g254, 0, none⟩)] ?_; (with_reducible refine (spec_l01Spoil.calls k g254 t251 t252 t253 t255 t256 t257 t258 t259 t260 w _ ?side1 ?side2 A3.out).mono ?_); (case side1 => repeat (first | (with_reducible first | exact HI254.out | apply IsS164.alloc | apply IsS164.drewN | apply IsS164.drew | apply IsS164.set_1 | apply IsS164.set_2 | refine IsS164.far ?_ NB254_250.out _) | exact HI254.out)); (case side2 => repeat (first | (with_reducible first | exact HB.out | apply below_alloc | apply pw_below_drewN | apply below_drew1 | refine below_set ?_ (IsS164.ge HI254.out) | refine below_set ?_ GW250.out) | exact HB.out)); rintro e w10 ⟨rfl, hi, hb, hk⟩; refine ⟨_, rfl, ?_⟩; replace BK250 := Aside0.mk (KeepBut.blk hk (g' := gb250) (o := .cells #[.int .i64 0, .int .i64 0, .int .i64 0] 25 (0, 0)) (bl_ BK250).out NB250_254.out (by simp)); replace HB := Aside0.mk (hb); replace HI254 := Aside0.mk (hi); (try clear hb); (try clear hk); (try clear hi)) | ((refine gd_ 7 ?_); refine bx_ 7 #[.int .i64 0, .int .i64 0, .int .i64 0] 25 ?_; intro gb261 hg w11 BK261 hb; have GW261 := Aside0.mk ((by rw [hg]; exact (below_size (by repeat (first | (with_reducible first | exact HB.out | apply below_alloc | apply pw_below_drewN | apply below_drew1 | refine below_set ?_ (IsS164.ge HI254.out) | refine below_set ?_ GW250.out) | exact HB.out))) : w.heap.size ≤ gb261)); have GE261 := Aside0.mk ((by rw [hg]; exact (below_size (by repeat (first | (with_reducible first | exact HB.out | apply below_alloc | apply pw_below_drewN | apply below_drew1 | refine below_set ?_ (IsS164.ge HI254.out) | refine below_set ?_ GW250.out) | exact HB.out))) : w.heap.size ≤ gb261)); have NB250_261 := bm_ BK250 hg; have NB261_250 := bn_ BK250 hg; have NB254_261 := Aside0.mk ((by rw [hg]; exact Nat.ne_of_lt (IsS164.lt (show IsS164 w _ g254 t251 t259 t260 from by repeat (first | (with_reducible first | exact HI254.out | apply IsS164.alloc | apply IsS164.drewN | apply IsS164.drew | apply IsS164.set_1 | apply IsS164.set_2 | refine IsS164.far ?_ NB254_250.out _) | exact HI254.out))) : g254 ≠ gb261)); have NB261_254 := Aside0.mk ((by rw [hg]; exact Nat.ne_of_gt (IsS164.lt (show IsS164 w _ g254 t251 t259 t260 from by repeat (first | (with_reducible first | exact HI254.out | apply IsS164.alloc | apply IsS164.drewN | apply IsS164.drew | apply IsS164.set_1 | apply IsS164.set_2 | refine IsS164.far ?_ NB254_250.out _) | exact HI254.out))) : gb261 ≠ g254)); replace BK250 := bb_ BK250 hb; replace HB := Aside0.mk (below_step (by repeat (first | (with_reducible first | exact HB.out | apply below_alloc | apply pw_below_drewN | apply below_drew1 | refine below_set ?_ (IsS164.ge HI254.out) | refine below_set ?_ GW250.out) | exact HB.out)) hb); replace HI254 := Aside0.mk (IsS164.below (by repeat (first | (with_reducible first | exact HI254.out | apply IsS164.alloc | apply IsS164.drewN | apply IsS164.drew | apply IsS164.set_1 | apply IsS164.set_2 | refine IsS164.far ?_ NB254_250.out _) | exact HI254.out)) hb); clear hb hg; have hnb12 := NB261_250.out; have hnc12 := NB250_261.out; have hnb13 := NB261_254.out; have hnc13 := NB254_261.out; obtain ⟨hcz14_0, hcz14_1, hcz14_2, hfz14_0, hfz14_1, hfz14_2⟩ := ch3_ BK261))
 have n0_ : Aside0 ((((w11.setCell ⟨gb261, 0, none⟩ (.int .i64 t256)).setCell ⟨gb261, 1, none⟩ (.int .i64 t257)).setCell ⟨gb261, 2, none⟩ (.int .i64 t258)).heap[gb250]? = some (.cells #[.int .i64 0, .int .i64 0, .int .i64 0] 25 (0, 0))) := fl_ BK250 NB250_261
 have n1_ : Aside0 ((((w11.setCell ⟨gb261, 0, none⟩ (.int .i64 t256)).setCell ⟨gb261, 1, none⟩ (.int .i64 t257)).setCell ⟨gb261, 2, none⟩ (.int .i64 t258)).heap[gb261]? = some (.cells #[.int .i64 t256, .int .i64 t257, .int .i64 t258] 25 (0, 0))) := bp_ BK261
 have n2_ : Aside0 (IsS164 w (((w11.setCell ⟨gb261, 0, none⟩ (.int .i64 t256)).setCell ⟨gb261, 1, none⟩ (.int .i64 t257)).setCell ⟨gb261, 2, none⟩ (.int .i64 t258)) g254 t251 t259 t260) := ⟨by repeat (first | (with_reducible first | exact HI254.out | apply IsS164.alloc | apply IsS164.drewN | apply IsS164.drew | apply IsS164.set_1 | apply IsS164.set_2 | refine IsS164.far ?_ NB254_250.out _ | refine IsS164.far ?_ NB254_261.out _) | exact HI254.out)⟩
 have n3_ : Aside0 (Below w.heap.size w (((w11.setCell ⟨gb261, 0, none⟩ (.int .i64 t256)).setCell ⟨gb261, 1, none⟩ (.int .i64 t257)).setCell ⟨gb261, 2, none⟩ (.int .i64 t258))) := ⟨by repeat (first | (with_reducible first | exact HB.out | apply below_alloc | apply pw_below_drewN | apply below_drew1 | refine below_set ?_ (IsS164.ge HI254.out) | refine below_set ?_ GW250.out | refine below_set ?_ GE261.out) | exact HB.out)⟩
 (try clear BK250)
 (try clear BK261)
 (try clear HI254)
 (try clear HB)
 generalize (((w11.setCell ⟨gb261, 0, none⟩ (.int .i64 t256)).setCell ⟨gb261, 1, none⟩ (.int .i64 t257)).setCell ⟨gb261, 2, none⟩ (.int .i64 t258)) = w15 at n0_ n1_ n2_ n3_ ⊢
 have BK250 := n0_
 have BK261 := n1_
 have HI254 := n2_
 have HB := n3_
 clear n0_ n1_ n2_ n3_
 replace BK250 := bd_ BK250
 replace BK261 := bd_ BK261
 replace HI254 := Aside0.mk (IsS164.drew HI254.out)
 replace HB := be_ HB
 refine start_ (n := 14) (S := fun w' => w'.cell? ⟨gb261, 0, none⟩ = some (.int .i64 t256) ∧ w'.cell? ⟨gb261, 1, none⟩ = some (.int .i64 t257) ∧ w'.cell? ⟨gb261, 2, none⟩ = some (.int .i64 t258)) (ds := []) (bv_ 14 0) (by kernel_rfl) rfl rfl ⟨cz_ BK261 0, cz_ BK261 1, cz_ BK261 2⟩ (fun hHeld => ?_); refine with_tabW spec_DrawBallOfPlace.tab3 spec_DrawBallOfPlace.bits3 (fun HT_ HW_ => ?_)
 generalize w15.drew = w16 at BK250 BK261 HI254 HB hHeld ⊢
 refine px_ HT_ 0 15 1 ?_
 refine px_ HT_ 2 17 5 ?_
 refine px_ HT_ 3 18 13 ?_
 refine px_ HT_ 5 20 45 ?_
 refine px_ HT_ 7 22 173 ?_
 refine ta_ HT_ HW_ 1 (some 16) (bv_ 14 175) hHeld ?_ (hy := by rintro w' ⟨s0, s1, s2⟩; go_simp; with_reducible rfl)
 refine on_ HT_ 4 (some 19) (bv_ 14 191) (fun K hK => ?_)
 refine gs_ Try.func108 #[.pointer (some ⟨g254, 0, none⟩), .int .i64 12] ?_
 with_reducible refine (spec_l01Next.calls g254 t251 t259 t260 12 t262 t263 t264 w _ ?side1 ?side2 A4.out).mono ?_
 (case side1 => repeat (first | (with_reducible first | exact HI254.out | apply IsS164.alloc | apply IsS164.drewN | apply IsS164.drew | apply IsS164.set_1 | apply IsS164.set_2 | refine IsS164.far ?_ NB254_250.out _ | refine IsS164.far ?_ NB254_261.out _) | exact HI254.out))
 (case side2 => repeat (first | (with_reducible first | exact HB.out | apply below_alloc | apply pw_below_drewN | apply below_drew1 | refine below_set ?_ (IsS164.ge HI254.out) | refine below_set ?_ GW250.out | refine below_set ?_ GE261.out) | exact HB.out))
 rintro e w17 ⟨rfl, hi, hb, hk⟩
 refine ⟨_, rfl, ?_⟩
 replace BK250 := Aside0.mk (KeepBut.blk hk (g' := gb250) (o := .cells #[.int .i64 0, .int .i64 0, .int .i64 0] 25 (0, 0)) (bl_ BK250).out NB250_254.out (by simp))
 replace BK261 := Aside0.mk (KeepBut.blk hk (g' := gb261) (o := .cells #[.int .i64 t256, .int .i64 t257, .int .i64 t258] 25 (0, 0)) (bl_ BK261).out NB261_254.out (by simp))
 replace HB := Aside0.mk (hb)
 replace HI254 := Aside0.mk (hi)
 try clear hb
 try clear hk
 try clear hi
 refine hK.out _ _ ⟨cz_ BK261 0, cz_ BK261 1, cz_ BK261 2⟩ (fun hHeld => ?_)
 clear hK K
 refine nm_ (some 19) ?_
 refine on_ HT_ 6 (some 21) (bv_ 14 255) (fun K hK => ?_)
 refine gs_ Try.func108 #[.pointer (some ⟨g254, 0, none⟩), .int .i64 60] ?_
 with_reducible refine (spec_l01Next.calls g254 t251 t263 t264 60 t265 t266 t267 w _ ?side1 ?side2 A5.out).mono ?_
 (case side1 => repeat (first | (with_reducible first | exact HI254.out | apply IsS164.alloc | apply IsS164.drewN | apply IsS164.drew | apply IsS164.set_1 | apply IsS164.set_2 | refine IsS164.far ?_ NB254_250.out _ | refine IsS164.far ?_ NB254_261.out _) | exact HI254.out))
 (case side2 => repeat (first | (with_reducible first | exact HB.out | apply below_alloc | apply pw_below_drewN | apply below_drew1 | refine below_set ?_ (IsS164.ge HI254.out) | refine below_set ?_ GW250.out | refine below_set ?_ GE261.out) | exact HB.out))
 rintro e w18 ⟨rfl, hi, hb, hk⟩
 refine ⟨_, rfl, ?_⟩
 replace BK250 := Aside0.mk (KeepBut.blk hk (g' := gb250) (o := .cells #[.int .i64 0, .int .i64 0, .int .i64 0] 25 (0, 0)) (bl_ BK250).out NB250_254.out (by simp))
 replace BK261 := Aside0.mk (KeepBut.blk hk (g' := gb261) (o := .cells #[.int .i64 t256, .int .i64 t257, .int .i64 t258] 25 (0, 0)) (bl_ BK261).out NB261_254.out (by simp))
 replace HB := Aside0.mk (hb)
 replace HI254 := Aside0.mk (hi)
 try clear hb
 try clear hk
 try clear hi
 refine hK.out _ _ ⟨cz_ BK261 0, cz_ BK261 1, cz_ BK261 2⟩ (fun hHeld => ?_)
 clear hK K
 refine nm_ (some 21) ?_
 refine on_ HT_ 8 (some 23) (bv_ 14 511) (fun K hK => ?_)
 refine gs_ Try.func110 #[.pointer (some ⟨g254, 0, none⟩), .int .i64 500] ?_
 with_reducible refine (spec_l01Near.calls g254 t251 t266 t267 500 t268 t269 t270 w _ ?side1 ?side2 A6.out).mono ?_
 (case side1 => repeat (first | (with_reducible first | exact HI254.out | apply IsS164.alloc | apply IsS164.drewN | apply IsS164.drew | apply IsS164.set_1 | apply IsS164.set_2 | refine IsS164.far ?_ NB254_250.out _ | refine IsS164.far ?_ NB254_261.out _) | exact HI254.out))
 (case side2 => repeat (first | (with_reducible first | exact HB.out | apply below_alloc | apply pw_below_drewN | apply below_drew1 | refine below_set ?_ (IsS164.ge HI254.out) | refine below_set ?_ GW250.out | refine below_set ?_ GE261.out) | exact HB.out))
 rintro e w19 ⟨rfl, hi, hb, hk⟩
 refine ⟨_, rfl, ?_⟩
 replace BK250 := Aside0.mk (KeepBut.blk hk (g' := gb250) (o := .cells #[.int .i64 0, .int .i64 0, .int .i64 0] 25 (0, 0)) (bl_ BK250).out NB250_254.out (by simp))
 replace BK261 := Aside0.mk (KeepBut.blk hk (g' := gb261) (o := .cells #[.int .i64 t256, .int .i64 t257, .int .i64 t258] 25 (0, 0)) (bl_ BK261).out NB261_254.out (by simp))
 replace HB := Aside0.mk (hb)
 replace HI254 := Aside0.mk (hi)
 try clear hb
 try clear hk
 try clear hi
 refine hK.out _ _ ⟨cz_ BK261 0, cz_ BK261 1, cz_ BK261 2⟩ (fun hHeld => ?_)
 clear hK K
 refine nm_ (some 23) ?_
 refine on_ HT_ 9 (some 24) (bv_ 14 1023) (fun K hK => ?_)
 refine Kd.R_lit_step (Kd.int .i64) _ 2 ?hg (N := 24) ?hd (xs := ([t262, t265, t268] : List Int)) (inner := [.int .i64 t262, .int .i64 t265, .int .i64 t268]) (ok := fun _ => True) (okp := fun _ => True) ?hr ?hp (fun _ hk => hk) trivial (Below.refl _ _) (Nat.le_refl _) (by simp) ?_; (case hd => rfl); (case hg => rfl); (case hr => first | (go_simp; done) | (go_simp; rfl)); (case hp => exact (Reps.one (show Kd.M (Kd.int .i64) _ _ _ t262 [.int .i64 t262] from rfl) (Reps.one (show Kd.M (Kd.int .i64) _ _ _ t265 [.int .i64 t265] from rfl) (Reps.one (show Kd.M (Kd.int .i64) _ _ _ t268 [.int .i64 t268] from rfl) (Reps.none _ _)))))
 intro v272 w20 ho21 hb hg_ hnew_
 clear hg_ hnew_
 (first | rw [← Ny271.out] at ho21 | (simp only [Int.reduceToNat] at ho21; rw [← Ny271.out] at ho21))
 have HO273 := Aside0.mk (Kd.R_lower ho21 (below_size (by repeat (first | (with_reducible first | exact HB.out | apply below_alloc | apply pw_below_drewN | apply below_drew1 | refine below_set ?_ (IsS164.ge HI254.out) | refine below_set ?_ GW250.out | refine below_set ?_ GE261.out) | exact HB.out))))
 replace BK250 := bb_ BK250 hb
 replace BK261 := bb_ BK261 hb
 replace HB := Aside0.mk (below_step (by repeat (first | (with_reducible first | exact HB.out | apply below_alloc | apply pw_below_drewN | apply below_drew1 | refine below_set ?_ (IsS164.ge HI254.out) | refine below_set ?_ GW250.out | refine below_set ?_ GE261.out) | exact HB.out)) hb)
 replace HI254 := Aside0.mk (IsS164.below (by repeat (first | (with_reducible first | exact HI254.out | apply IsS164.alloc | apply IsS164.drewN | apply IsS164.drew | apply IsS164.set_1 | apply IsS164.set_2 | refine IsS164.far ?_ NB254_250.out _ | refine IsS164.far ?_ NB254_261.out _) | exact HI254.out)) hb)
 clear hb ho21
 obtain ⟨Ao22, co22, eo22⟩ := Kd.R_slice HO273.out
 (first | subst eo22 | (injection eo22 with f1_ f2_ f3_; have f4_ := f1_.symm; have f5_ := f3_.symm; clear f1_ f2_ f3_; subst f4_; subst f5_))
 refine hK.out _ _ ⟨cz_ BK261 0, cz_ BK261 1, cz_ BK261 2⟩ (fun hHeld => ?_)
 clear hK K
 refine nm_ (some 24) ?_
 refine on_ HT_ 10 (some 25) (bv_ 14 2047) (fun K hK => ?_)
 refine gs_ Try.func104 #[.pointer (some ⟨g254, 0, none⟩), .slice Ao22 y271.length co22] ?_
 with_reducible refine (spec_l01Pick.calls g254 t251 t269 t270 _ _ y271 t274 t275 t276 w _ ?side1 ?side2 ?side3 ?side4 ?side5 A7.out).mono ?_
 (case side1 => repeat (first | (with_reducible first | exact HI254.out | apply IsS164.alloc | apply IsS164.drewN | apply IsS164.drew | apply IsS164.set_1 | apply IsS164.set_2 | refine IsS164.far ?_ NB254_250.out _ | refine IsS164.far ?_ NB254_261.out _) | exact HI254.out))
 (case side2 => repeat (first | (with_reducible first | exact HB.out | apply below_alloc | apply pw_below_drewN | apply below_drew1 | refine below_set ?_ (IsS164.ge HI254.out) | refine below_set ?_ GW250.out | refine below_set ?_ GE261.out) | exact HB.out))
 (case side3 => exact ca_ (Kd.R_reads' HO273.out).2.2)
 (case side4 => exact (Kd.R_reads' HO273.out).2.1)
 (case side5 => exact far_slice (IsS164.own_ne HI254.out HO273.out (by decide)))
 rintro e w23 ⟨rfl, hi, hb, hk⟩
 refine ⟨_, rfl, ?_⟩
 replace BK250 := Aside0.mk (KeepBut.blk hk (g' := gb250) (o := .cells #[.int .i64 0, .int .i64 0, .int .i64 0] 25 (0, 0)) (bl_ BK250).out NB250_254.out (by simp))
 replace BK261 := Aside0.mk (KeepBut.blk hk (g' := gb261) (o := .cells #[.int .i64 t256, .int .i64 t257, .int .i64 t258] 25 (0, 0)) (bl_ BK261).out NB261_254.out (by simp))
 replace HO273 := Aside0.mk (Kd.R_mono (Kd.R_keep (IsS164.apart (show IsS164 w _ g254 t251 t269 t270 from by repeat (first | (with_reducible first | exact HI254.out | apply IsS164.alloc | apply IsS164.drewN | apply IsS164.drew | apply IsS164.set_1 | apply IsS164.set_2 | refine IsS164.far ?_ NB254_250.out _ | refine IsS164.far ?_ NB254_261.out _) | exact HI254.out)) (ra_ HO273.out) (by decide)) hk (fun _ h => h.2)) (fun _ h => h.1))
 replace HB := Aside0.mk (hb)
 replace HI254 := Aside0.mk (hi)
 try clear hb
 try clear hk
 try clear hi
 refine hK.out _ _ ⟨cz_ BK261 0, cz_ BK261 1, cz_ BK261 2⟩ (fun hHeld => ?_)
 clear hK K
 refine nm_ (some 25) ?_
 refine px_ HT_ 11 2 4095 ?_
 refine on_ HT_ 12 none (bv_ 14 8191) (fun K hK => ?_)
 have hs24 : w23.cell? ⟨gb250, 0, none⟩ = some (.int .i64 0) := (blk_cell BK250.out 0).trans rfl
 have hfs24 := blk_frozen BK250.out 0
 have hns24_1 := NB261_250.out
 have hms24_1 := NB250_261.out
 have hs25 : w23.cell? ⟨gb250, 1, none⟩ = some (.int .i64 0) := (blk_cell BK250.out 1).trans rfl
 have hfs25 := blk_frozen BK250.out 1
 have hns25_1 := NB261_250.out
 have hms25_1 := NB250_261.out
 have hs26 : w23.cell? ⟨gb250, 2, none⟩ = some (.int .i64 0) := (blk_cell BK250.out 2).trans rfl
 have hfs26 := blk_frozen BK250.out 2
 have hns26_1 := NB261_250.out
 have hms26_1 := NB250_261.out
 refine skip_ (w1 := ?_) (by rfl) rfl ?_ ?_
 rotate_left
 ·go_simp
  rfl
 refine hK.out _ _ ⟨(cg_ NB261_250 ((cg_ NB261_250 ((cg_ NB261_250 (hHeld.1)))))), (cg_ NB261_250 ((cg_ NB261_250 ((cg_ NB261_250 (hHeld.2.1)))))), (cg_ NB261_250 ((cg_ NB261_250 ((cg_ NB261_250 (hHeld.2.2))))))⟩ (fun hHeld => ?_)
 clear hK K
 refine px_ HT_ 13 4 16383 ?_
 refine done_ (done_of HT_.out (by kernel_rfl)) ?_
 try go_wp2
 refine bodyPost_ret (results_list (rs := [.tmp 2, .cell 3 25, .tmp 4]) rfl (by simp) (.tmp (.cell gb250 25 #[.int .i64 t256, .int .i64 t257, .int .i64 t258] (0, 0) _ rfl (bp_ BK250).out Try.underlying25 rfl (by kernel_rfl) (.tmp .nil)))) rfl ?_
 exact ⟨es_, by repeat (first | (with_reducible first | exact HB.out | apply below_alloc | apply pw_below_drewN | apply below_drew1 | refine below_set ?_ (IsS164.ge HI254.out) | refine below_set ?_ GW250.out | refine below_set ?_ GE261.out) | exact HB.out)⟩
/-! ### impl_fitted: function 95 -/
def impl_fitted.f (a0_0 a0_1 a0_2 : Int) (a1 : Bool) : Option (Int × Int × Int × Int) := if a1 = true then (some (a0_0, a0_1, a0_2, 0)) else (some (0, 0, 0, 3))
theorem impl_fitted.calls (a0_0 a0_1 a0_2 : Int) (a1 : Bool) (r1 r2 r3 r4 : Int) (w : World) (h : impl_fitted.f a0_0 a0_1 a0_2 a1 = some (r1, r2, r3, r4)) :
  Calls Try.prog 95 #[.agg #[.int .i64 a0_0, .int .i64 a0_1, .int .i64 a0_2], .bool a1] w fun e w' => e = .returned (.tuple #[.agg #[.int .i64 r1, .int .i64 r2, .int .i64 r3], .int .i64 r4]) ∧ Below w.heap.size w w' := by
 have hu25 := Try.underlying25
 have HB := Aside0.mk (Below.refl w.heap.size w)
 unfold impl_fitted.f at h
 have H := h
 clear h
 replace H := ib_ H
 rcases H with ⟨rfl, H⟩ | ⟨rfl, H⟩
 ·simp only [Option.some.injEq, Prod.mk.injEq] at H
  obtain ⟨rfl, rfl, rfl, rfl⟩ := H
  go_enter Try.func95, Try.ntmps95
  go_wp2_with (first | ((refine gd_ 2 ?_); refine by_ 2 #[.int .i64 a0_0, .int .i64 a0_1, .int .i64 a0_2] 25 HB ?_; intro gb277 hg w4 BK277 hb GW277 HB_; replace HB := HB_; clear hb hg) | ((refine gd_ 4 ?_); refine by_ 4 #[.int .i64 0, .int .i64 0, .int .i64 0] 25 HB ?_; intro gb278 hg w5 BK278 hb GW278 HB_; have NB277_278 := bm_ BK277 hg; have NB278_277 := bn_ BK277 hg; replace BK277 := bb_ BK277 hb; replace HB := HB_; clear hb hg; have hnb6 := NB277_278.out; have hnc6 := NB278_277.out; obtain ⟨hcz7_0, hcz7_1, hcz7_2, hfz7_0, hfz7_1, hfz7_2⟩ := ch3_ BK277; obtain ⟨hcz8_0, hcz8_1, hcz8_2, hfz8_0, hfz8_1, hfz8_2⟩ := ch3_ BK278))
  refine bodyPost_ret (results_ct rfl _ _ gb278 25 #[.int .i64 a0_0, .int .i64 a0_1, .int .i64 a0_2] (0, 0) _ rfl (bp_ BK278).out Try.underlying25 rfl (by kernel_rfl)) rfl ?_
  exact ⟨es_, (bw_ HB).out⟩
 simp only [Option.some.injEq, Prod.mk.injEq] at H
 obtain ⟨rfl, rfl, rfl, rfl⟩ := H
 go_enter Try.func95, Try.ntmps95
 go_wp2_with (first | ((refine gd_ 2 ?_); refine by_ 2 #[.int .i64 a0_0, .int .i64 a0_1, .int .i64 a0_2] 25 HB ?_; intro gb277 hg w9 BK277 hb GW277 HB_; replace HB := HB_; clear hb hg) | ((refine gd_ 4 ?_); refine by_ 4 #[.int .i64 0, .int .i64 0, .int .i64 0] 25 HB ?_; intro gb278 hg w10 BK278 hb GW278 HB_; have NB277_278 := bm_ BK277 hg; have NB278_277 := bn_ BK277 hg; replace BK277 := bb_ BK277 hb; replace HB := HB_; clear hb hg; have hnb11 := NB278_277.out; have hnc11 := NB277_278.out; obtain ⟨hcz12_0, hcz12_1, hcz12_2, hfz12_0, hfz12_1, hfz12_2⟩ := ch3_ BK278))
 refine bodyPost_ret (results_ct rfl _ _ gb278 25 #[.int .i64 0, .int .i64 0, .int .i64 0] (0, 0) _ rfl (bp_ BK278).out Try.underlying25 rfl (by kernel_rfl)) rfl ?_
 exact ⟨es_, (bw_ HB).out⟩
/-! ### impl_parentPlace: function 119 -/
def impl_parentPlace.f (a0 a1 : Int) : Option (Int) := if a1 ≤ (wrap64 (a0 + 1)) then (some 0) else (if a0 = 0 then (none) else (some (wrap64 ((wrap64 (Int.tdiv (wrap64 ((wrap64 (a1 - a0)) - 2)) a0)) + 1))))
theorem impl_parentPlace.calls (a0 a1 r : Int) (w : World) (h : impl_parentPlace.f a0 a1 = some r) :
  Calls Try.prog 119 #[.int .i64 a0, .int .i64 a1] w fun e w' => e = .returned (.int .i64 r) ∧ Drawn0 w w' := by
 unfold impl_parentPlace.f at h
 have H := h
 clear h
 replace H := im_ H
 rcases H with ⟨c3b0, H⟩ | ⟨c3b0, H⟩
 ·obtain rfl := si_ H
  go_enter Try.func119, Try.ntmps119
  go_wp2
  go_ret
  exact ⟨en_, de_⟩
 replace H := ief_ H
 obtain ⟨c4, c4b0, c4b1, H⟩ := H
 obtain rfl := si_ H
 go_enter Try.func119, Try.ntmps119
 go_wp2
 go_ret
 exact ⟨en_, de_⟩
/-! ### impl_depthOf: function 111 -/
def impl_depthOf.l0 : Nat → Int → Int → Int → Option (Int)
 | 0, _, _, _ => none
 | k + 1, x0, x1, x5 => if x1 > 0 then ((impl_parentPlace.f x0 x1).bind fun t279 => (impl_depthOf.l0 k x0 t279 (wrap64 (x5 + 1)))) else (some x5)
def impl_depthOf.f (k : Nat) (a0 a1 : Int) : Option (Int) := impl_depthOf.l0 k a0 a1 0
theorem impl_depthOf.calls (k : Nat) (a0 a1 r : Int) (w : World) (h : impl_depthOf.f k a0 a1 = some r) :
  Calls Try.prog 111 #[.int .i64 a0, .int .i64 a1] w fun e w' => e = .returned (.int .i64 r) ∧ Drawn0 w w' := by
 unfold impl_depthOf.f at h
 have H := h
 clear h
 have H' := Aside0.mk H
 clear H
 go_enter Try.func111, Try.ntmps111
 go_wp2
 go_loopg [1, 5] k (fun kq v1 v5 w' => ∃ (x1_1 : Int) (x5_1 : Int), v1 = .int .i64 x1_1 ∧ v5 = .int .i64 x5_1 ∧ Aside0 (impl_depthOf.l0 kq a0 x1_1 x5_1 = some r) ∧ Aside0 (kq ≤ k) ∧ Drawn0 w w')
 case atStart => exact ⟨(a1), (0), en_, en_, H', ⟨Nat.le_refl _⟩, de_⟩
 clear H'
 obtain ⟨x1_1, x5_1, rfl, rfl, HA, HK1, ⟨m1, rfl⟩⟩ := hrel
 cases gk with
 | zero => exact absurd HA.out (by simp [impl_depthOf.l0])
 | succ k1 =>
  have H := HA.out
  clear HA
  simp only [impl_depthOf.l0] at H
  replace H := ig_ H
  rcases H with ⟨c3b0, H⟩ | ⟨c3b0, H⟩
  ·replace H := oc_ H
   obtain ⟨t279, A4, H⟩ := H
   have H' := Aside0.mk H
   clear H
   go_wp2_with (first | ((refine gc_ 119 ?_); refine ge_ 10 Try.func119 #[.int .i64 a0, .int .i64 x1_1] ?_; (with_reducible refine (impl_parentPlace.calls a0 x1_1 t279 _ A4.out).mono ?_); rintro e w' ⟨rfl, ⟨nd, rfl⟩⟩; refine ⟨_, rfl, ?_⟩))
   go_roundg k1
   case measure => have := HK1.out; omega
   case rel => exact ⟨(t279), (wrap64 (x5_1 + 1)), en_, en_, H', ⟨by have := HK1.out; omega⟩, de_⟩
  obtain rfl := si_ H
  go_wp2
  go_ret
  exact ⟨en_, de_⟩
/-! ### impl_mod: function 203 -/
def impl_mod.f (a0 a1 : Int) : Option (Int) := if a1 = 0 then (none) else (some (Int.tmod (wrap64 ((Int.tmod a0 a1) + a1)) a1))
theorem impl_mod.calls (a0 a1 r : Int) (w : World) (h : impl_mod.f a0 a1 = some r) :
  Calls Try.prog 203 #[.int .i64 a0, .int .i64 a1] w fun e w' => e = .returned (.int .i64 r) ∧ Drawn0 w w' := by
 unfold impl_mod.f at h
 have H := h
 clear h
 replace H := ief_ H
 obtain ⟨c3, c3b0, c3b1, H⟩ := H
 obtain rfl := si_ H
 go_enter Try.func203, Try.ntmps203
 go_wp2
 go_ret
 exact ⟨en_, de_⟩
end Go.Proofs.Ytgoeelhiffbjlaa.QP
