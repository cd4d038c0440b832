import Derived.Test.YteniblbnmcfmjaaQMx6
import Derived.Test.YteniblbnmcfmjaaQMx7
namespace Go.Proofs.Yteniblbnmcfmjaa.QM
set_option maxHeartbeats 8000000
set_option maxRecDepth 100000
open Go.RowKit Go.Proofs.YteniblbnmcfmjaaW.PrintWords Go.Proofs.YteniblbnmcfmjaaW.PrintLast Go.Proofs.YteniblbnmcfmjaaW.PrintMore
attribute [local go_sem] isSome_setCell max2_int min2_int max_two min_two max_three min_three max_four min_four
set_option linter.unusedVariables false
set_option linter.unusedSimpArgs false

/-! ### spec_DrawMultiplyMatrices: function 5 -/
def spec_DrawMultiplyMatrices.f (k : Nat) (l0 : List Int) : Option (Int × Int × Int × Int × Int × Int × Int × Int) := (spec_l01From.f k l0).bind fun bt159 => ((spec_l04Draw.f k bt159.1 bt159.2.1 bt159.2.2).bind fun bt163 => ((spec_l04Draw.f k bt159.1 bt163.2.2.2.2.1 bt163.2.2.2.2.2).bind fun bt169 => (some (bt163.1, bt163.2.1, bt163.2.2.1, bt163.2.2.2.1, bt169.1, bt169.2.1, bt169.2.2.1, bt169.2.2.2.1))))
theorem spec_DrawMultiplyMatrices.calls (k : Nat) (A0 : Option Addr) (c0 : Nat) (l0 : List Int) (r1 r2 r3 r4 r5 r6 r7 r8 : Int) (w : World) (hr0 : Kd.C (Kd.int .u8) w A0 l0.length l0) (hc0 : l0.length ≤ c0) (h : spec_DrawMultiplyMatrices.f k l0 = some (r1, r2, r3, r4, r5, r6, r7, r8)) :
  Calls Try.prog 5 #[.slice A0 l0.length c0] w fun e w' => e = .returned (.tuple #[.agg #[.int .i64 r1, .int .i64 r2, .int .i64 r3, .int .i64 r4], .agg #[.int .i64 r5, .int .i64 r6, .int .i64 r7, .int .i64 r8]]) ∧ Below w.heap.size w w' := by
 have hu26 := Try.underlying26
 have HR0 := Aside0.mk hr0
 have HC0 := Aside0.mk hc0
 clear hr0 hc0
 have HB := Aside0.mk (Below.refl w.heap.size w)
 unfold spec_DrawMultiplyMatrices.f at h
 have H := h
 clear h
 replace H := oc_ H
 obtain ⟨⟨t159, t160, t161⟩, A2, H⟩ := H
 replace H := oc_ H
 obtain ⟨⟨t163, t164, t165, t166, t167, t168⟩, A3, H⟩ := H
 replace H := oc_ H
 obtain ⟨⟨t169, t170, t171, t172, t173, t174⟩, A4, H⟩ := H
 simp only [Option.some.injEq, Prod.mk.injEq] at H
 obtain ⟨rfl, rfl, rfl, rfl, rfl, rfl, rfl, rfl⟩ := H
 go_enter Try.func5, Try.ntmps5
 go_wp2_with (first | ((refine gd_ 2 ?_); refine by_ 2 #[.int .i64 0, .int .i64 0, .int .i64 0, .int .i64 0] 26 HB ?_; intro gb157 hg w5 BK157 hb GW157 HB_; replace HB := HB_; clear hb hg) | ((refine gd_ 3 ?_); refine by_ 3 #[.int .i64 0, .int .i64 0, .int .i64 0, .int .i64 0] 26 HB ?_; intro gb158 hg w6 BK158 hb GW158 HB_; have NB157_158 := bm_ BK157 hg; have NB158_157 := bn_ BK157 hg; replace BK157 := bb_ BK157 hb; replace HB := HB_; clear hb hg) | ((refine gc_ 22 ?_); refine ge_ 6 Try.func22 #[.slice A0 l0.length c0] ?_; (with_reducible refine (spec_l01From.calls k _ _ l0 t159 t160 t161 w _ ?side1 ?side2 ?side3 A2.out).mono ?_); (case side1 => repeat (first | (with_reducible first | exact HB.out | apply below_alloc | apply pw_below_drewN | apply below_drew1 | refine below_set ?_ GW157.out | refine below_set ?_ GW158.out) | exact HB.out)); (case side2 => exact HR0.out); (case side3 => exact HC0.out); rintro e w7 ⟨g162, rfl, hi, hb, hb2⟩; refine ⟨_, rfl, ?_⟩; have HI162 := Aside0.mk (hi); have NB162_157 := Aside0.mk (IsS55.ne_blk hi (blk_below (g := gb157) (o := .cells #[.int .i64 0, .int .i64 0, .int .i64 0, .int .i64 0] 26 (0, 0)) (bl_ BK157).out hb2) (by decide)); have NB157_162 := Aside0.mk (Ne.symm (IsS55.ne_blk hi (blk_below (g := gb157) (o := .cells #[.int .i64 0, .int .i64 0, .int .i64 0, .int .i64 0] 26 (0, 0)) (bl_ BK157).out hb2) (by decide))); have NB162_158 := Aside0.mk (IsS55.ne_blk hi (blk_below (g := gb158) (o := .cells #[.int .i64 0, .int .i64 0, .int .i64 0, .int .i64 0] 26 (0, 0)) (bl_ BK158).out hb2) (by decide)); have NB158_162 := Aside0.mk (Ne.symm (IsS55.ne_blk hi (blk_below (g := gb158) (o := .cells #[.int .i64 0, .int .i64 0, .int .i64 0, .int .i64 0] 26 (0, 0)) (bl_ BK158).out hb2) (by decide))); replace BK157 := Aside0.mk (blk_below (g := gb157) (o := .cells #[.int .i64 0, .int .i64 0, .int .i64 0, .int .i64 0] 26 (0, 0)) (bl_ BK157).out hb2); replace BK158 := Aside0.mk (blk_below (g := gb158) (o := .cells #[.int .i64 0, .int .i64 0, .int .i64 0, .int .i64 0] 26 (0, 0)) (bl_ BK158).out hb2); replace HB := Aside0.mk (hb); (try clear hb); (try clear hb2); (try clear hi)) | ((refine gc_ 23 ?_); refine ge_ 8 Try.func23 #[.pointer (some ⟨g162, 0, none⟩)] ?_; (with_reducible refine (spec_l04Draw.calls k g162 t159 t160 t161 t163 t164 t165 t166 t167 t168 w _ ?side1 ?side2 A3.out).mono ?_); (case side1 => repeat (first | (with_reducible first | exact HI162.out | apply IsS55.alloc | apply IsS55.drewN | apply IsS55.drew | apply IsS55.set_1 | apply IsS55.set_2 | refine IsS55.far ?_ NB162_157.out _ | refine IsS55.far ?_ NB162_158.out _) | exact HI162.out)); (case side2 => repeat (first | (with_reducible first | exact HB.out | apply below_alloc | apply pw_below_drewN | apply below_drew1 | refine below_set ?_ (IsS55.ge HI162.out) | refine below_set ?_ GW157.out | refine below_set ?_ GW158.out) | exact HB.out)); rintro e w8 ⟨rfl, hi, hb, hk⟩; refine ⟨_, rfl, ?_⟩; replace BK157 := Aside0.mk (KeepBut.blk hk (g' := gb157) (o := .cells #[.int .i64 0, .int .i64 0, .int .i64 0, .int .i64 0] 26 (0, 0)) (bl_ BK157).out NB157_162.out (by simp)); replace BK158 := Aside0.mk (KeepBut.blk hk (g' := gb158) (o := .cells #[.int .i64 0, .int .i64 0, .int .i64 0, .int .i64 0] 26 (0, 0)) (bl_ BK158).out NB158_162.out (by simp)); replace HB := Aside0.mk (hb); replace HI162 := Aside0.mk (hi); (try clear hb); (try clear hk); (try clear hi)) | ((refine gc_ 23 ?_); refine ge_ 10 Try.func23 #[.pointer (some ⟨g162, 0, none⟩)] ?_; (with_reducible refine (spec_l04Draw.calls k g162 t159 t167 t168 t169 t170 t171 t172 t173 t174 w _ ?side1 ?side2 A4.out).mono ?_); (case side1 => repeat (first | (with_reducible first | exact HI162.out | apply IsS55.alloc | apply IsS55.drewN | apply IsS55.drew | apply IsS55.set_1 | apply IsS55.set_2 | refine IsS55.far ?_ NB162_157.out _ | refine IsS55.far ?_ NB162_158.out _) | exact HI162.out)); (case side2 => repeat (first | (with_reducible first | exact HB.out | apply below_alloc | apply pw_below_drewN | apply below_drew1 | refine below_set ?_ (IsS55.ge HI162.out) | refine below_set ?_ GW157.out | refine below_set ?_ GW158.out) | exact HB.out)); rintro e w9 ⟨rfl, hi, hb, hk⟩; refine ⟨_, rfl, ?_⟩; replace BK157 := Aside0.mk (KeepBut.blk hk (g' := gb157) (o := .cells #[.int .i64 0, .int .i64 0, .int .i64 0, .int .i64 0] 26 (0, 0)) (bl_ BK157).out NB157_162.out (by simp)); replace BK158 := Aside0.mk (KeepBut.blk hk (g' := gb158) (o := .cells #[.int .i64 0, .int .i64 0, .int .i64 0, .int .i64 0] 26 (0, 0)) (bl_ BK158).out NB158_162.out (by simp)); replace HB := Aside0.mk (hb); replace HI162 := Aside0.mk (hi); (try clear hb); (try clear hk); (try clear hi); have hnb10 := NB157_158.out; have hnc10 := NB158_157.out; have hnb11 := NB157_162.out; have hnc11 := NB162_157.out; obtain ⟨hcz12_0, hcz12_1, hcz12_2, hcz12_3, hfz12_0, hfz12_1, hfz12_2, hfz12_3⟩ := ch4_ BK157; have hnb13 := NB158_162.out; have hnc13 := NB162_158.out; obtain ⟨hcz14_0, hcz14_1, hcz14_2, hcz14_3, hfz14_0, hfz14_1, hfz14_2, hfz14_3⟩ := ch4_ BK158))
 refine bodyPost_ret (results_cc rfl _ _ gb157 gb158 26 26 #[.int .i64 t163, .int .i64 t164, .int .i64 t165, .int .i64 t166] #[.int .i64 t169, .int .i64 t170, .int .i64 t171, .int .i64 t172] (0, 0) (0, 0) _ _ rfl (bp_ BK157).out Try.underlying26 rfl (by kernel_rfl) rfl (bp_ BK158).out Try.underlying26 rfl (by kernel_rfl)) rfl ?_
 exact ⟨es_, by repeat (first | (with_reducible first | exact HB.out | apply below_alloc | apply pw_below_drewN | apply below_drew1 | refine below_set ?_ (IsS55.ge HI162.out) | refine below_set ?_ GW157.out | refine below_set ?_ GW158.out) | exact HB.out)⟩
/-! ### impl_within: function 29 -/
def impl_within.l0 : Nat → Int → List Int → Int → Int → Option (Bool)
 | 0, _, _, _, _ => none
 | k + 1, x0, x7, x8, x9 => if x9 < x8 then (if 0 ≤ x9 then (if x9 < (x7.length : Int) then (if (rd x7 x9) < (wrap64 (-x0)) then (some false) else (if (rd x7 x9) > x0 then (some false) else (impl_within.l0 k x0 x7 x8 (wrap64 (x9 + 1))))) else (none)) else (none)) else (some true)
def impl_within.f (k : Nat) (a0 : Int) (l1 : List Int) : Option (Bool) := impl_within.l0 k a0 l1 (l1.length : Int) 0
theorem impl_within.calls (k : Nat) (a0 : Int) (A1 : Option Addr) (c1 : Nat) (l1 : List Int) (r : Bool) (w : World) (hr1 : Kd.C (Kd.int .i64) w A1 l1.length l1) (hc1 : l1.length ≤ c1) (h : impl_within.f k a0 l1 = some r) :
  Calls Try.prog 29 #[.int .i64 a0, .slice A1 l1.length c1] w fun e w' => e = .returned (.bool r) ∧ Drawn0 w w' := by
 have HR1 := Aside0.mk hr1
 have HC1 := Aside0.mk hc1
 clear hr1 hc1
 unfold impl_within.f at h
 have H := h
 clear h
 have H' := Aside0.mk H
 clear H
 go_enter Try.func29, Try.ntmps29
 go_wp2
 go_loopg [9] k (fun kq v9 w' => ∃ (x9_1 : Int), v9 = .int .i64 x9_1 ∧ Aside0 (impl_within.l0 kq a0 l1 (l1.length : Int) x9_1 = some r) ∧ Aside0 (kq ≤ k) ∧ Drawn0 w w')
 case atStart => exact ⟨(0), en_, H', ⟨Nat.le_refl _⟩, de_⟩
 clear H'
 try clear c1
 obtain ⟨x9_1, rfl, HA, HK1, ⟨m1, rfl⟩⟩ := hrel
 cases gk with
 | zero => exact absurd HA.out (by simp [impl_within.l0])
 | succ k1 =>
  have H := HA.out
  clear HA
  simp only [impl_within.l0] at H
  replace H := il_ H
  rcases H with ⟨c3b0, H⟩ | ⟨c3b0, H⟩
  ·replace H := imn_ H
   obtain ⟨c4b0, H⟩ := H
   replace H := iln_ H
   obtain ⟨c5b0, H⟩ := H
   replace H := il_ H
   rcases H with ⟨c6b0, H⟩ | ⟨c6b0, H⟩
   ·obtain rfl := si_ H
    have p175 : 0 ≤ (x9_1 : Int) := od_
    have q175 : x9_1 < (l1.length : Int) := od_
    obtain ⟨ad175, e175, hx175_0⟩ := Kd.at_int HR1.out x9_1 p175 q175
    cases e175
    replace p175 := eq_true p175
    replace q175 := eq_true q175
    go_wp2
    go_ret
    exact ⟨en_, de_⟩
   replace H := ig_ H
   rcases H with ⟨c7b0, H⟩ | ⟨c7b0, H⟩
   ·obtain rfl := si_ H
    have p175 : 0 ≤ (x9_1 : Int) := od_
    have q175 : x9_1 < (l1.length : Int) := od_
    obtain ⟨ad175, e175, hx175_0⟩ := Kd.at_int HR1.out x9_1 p175 q175
    cases e175
    replace p175 := eq_true p175
    replace q175 := eq_true q175
    go_wp2
    go_ret
    exact ⟨en_, de_⟩
   have H' := Aside0.mk H
   clear H
   have p175 : 0 ≤ (x9_1 : Int) := od_
   have q175 : x9_1 < (l1.length : Int) := od_
   obtain ⟨ad175, e175, hx175_0⟩ := Kd.at_int HR1.out x9_1 p175 q175
   cases e175
   replace p175 := eq_true p175
   replace q175 := eq_true q175
   go_wp2
   go_roundg k1
   case measure => have := HK1.out; omega
   case rel => exact ⟨(wrap64 (x9_1 + 1)), en_, H', ⟨by have := HK1.out; omega⟩, de_⟩
  obtain rfl := si_ H
  go_wp2
  go_ret
  exact ⟨en_, de_⟩
/-! ### impl_determinant: function 30 -/
def impl_determinant.f (a0_0 a0_1 a0_2 a0_3 : Int) : Option (Int) := some (wrap64 ((wrap64 (a0_0 * a0_3)) - (wrap64 (a0_1 * a0_2))))
theorem impl_determinant.calls (a0_0 a0_1 a0_2 a0_3 r : Int) (w : World) (h : impl_determinant.f a0_0 a0_1 a0_2 a0_3 = some r) :
  Calls Try.prog 30 #[.agg #[.int .i64 a0_0, .int .i64 a0_1, .int .i64 a0_2, .int .i64 a0_3]] w fun e w' => e = .returned (.int .i64 r) ∧ Below w.heap.size w w' := by
 have hu26 := Try.underlying26
 have hu24 := Try.underlying24
 have HB := Aside0.mk (Below.refl w.heap.size w)
 unfold impl_determinant.f at h
 have H := h
 clear h
 obtain rfl := si_ H
 go_enter Try.func30, Try.ntmps30
 go_wp2_with (first | ((refine gd_ 1 ?_); refine by_ 1 #[.int .i64 a0_0, .int .i64 a0_1, .int .i64 a0_2, .int .i64 a0_3] 26 HB ?_; intro gb176 hg w2 BK176 hb GW176 HB_; replace HB := HB_; clear hb hg; obtain ⟨hcz3_0, hcz3_1, hcz3_2, hcz3_3, hfz3_0, hfz3_1, hfz3_2, hfz3_3⟩ := ch4_ BK176))
 go_ret
 exact ⟨es_, (bw_ HB).out⟩
/-! ### impl_IsMatrix: function 8 -/
def impl_IsMatrix.f (k : Nat) (a0_0 a0_1 a0_2 a0_3 : Int) : Option (Bool) := (impl_within.f k 1000 (([a0_0, a0_1, a0_2, a0_3] : List Int))).bind fun t181 => (if t181 = true then ((impl_determinant.f a0_0 a0_1 a0_2 a0_3).bind fun t182 => (some (t182 != 0))) else (some false))
theorem impl_IsMatrix.calls (k : Nat) (a0_0 a0_1 a0_2 a0_3 : Int) (r : Bool) (w : World) (h : impl_IsMatrix.f k a0_0 a0_1 a0_2 a0_3 = some r) :
  Calls Try.prog 8 #[.agg #[.int .i64 a0_0, .int .i64 a0_1, .int .i64 a0_2, .int .i64 a0_3]] w fun e w' => e = .returned (.bool r) ∧ Below w.heap.size w w' := by
 have hu26 := Try.underlying26
 have hu24 := Try.underlying24
 have HB := Aside0.mk (Below.refl w.heap.size w)
 unfold impl_IsMatrix.f at h
 have H := h
 clear h
 obtain ⟨y178, hy178⟩ : ∃ y_ : List Int, y_ = (([a0_0, a0_1, a0_2, a0_3] : List Int)) := ⟨_, rfl⟩
 replace H : ((impl_within.f k 1000 y178).bind fun t181 => (if t181 = true then ((impl_determinant.f a0_0 a0_1 a0_2 a0_3).bind fun t182 => (some (t182 != 0))) else (some false))) = some r := by first | (rw [hy178]; with_reducible exact H) | (have H2_ := (Option.bind_some _ _).symm.trans H; rw [hy178]; with_reducible exact H2_) | (have H2_ := (Option.bind_some _ _).symm.trans H; with_reducible exact H2_) | with_reducible exact H | (rw [hy178]; exact H) | exact H
 have Ny178 := Aside0.mk hy178
 clear hy178
 replace H := oc_ H
 obtain ⟨t181, A2, H⟩ := H
 replace H := ib_ H
 rcases H with ⟨rfl, H⟩ | ⟨rfl, H⟩
 ·replace H := oc_ H
  obtain ⟨t182, A4, H⟩ := H
  obtain rfl := si_ H
  go_enter Try.func8, Try.ntmps8
  go_wp2_with (first | ((refine gd_ 1 ?_); refine by_ 1 #[.int .i64 a0_0, .int .i64 a0_1, .int .i64 a0_2, .int .i64 a0_3] 26 HB ?_; intro gb177 hg w5 BK177 hb GW177 HB_; replace HB := HB_; clear hb hg; obtain ⟨hcz6_0, hcz6_1, hcz6_2, hcz6_3, hfz6_0, hfz6_1, hfz6_2, hfz6_3⟩ := ch4_ BK177) | ((refine gd_ 15 ?_); refine Kd.R_lit (Kd.int .i64) _ 2 ?hg (N := 15) ?hd (xs := ([a0_0, a0_1, a0_2, a0_3] : List Int)) (inner := [.int .i64 a0_0, .int .i64 a0_1, .int .i64 a0_2, .int .i64 a0_3]) (ok := fun _ => True) (okp := fun _ => True) ?hr ?hp (fun _ hk => hk) trivial (Below.refl _ _) (Nat.le_refl _) (by simp) ?_; (case hd => rfl); (case hg => rfl); (case hr => first | (go_simp; done) | (go_simp; rfl)); (case hp => exact (Reps.one (show Kd.M (Kd.int .i64) _ _ _ a0_0 [.int .i64 a0_0] from rfl) (Reps.one (show Kd.M (Kd.int .i64) _ _ _ a0_1 [.int .i64 a0_1] from rfl) (Reps.one (show Kd.M (Kd.int .i64) _ _ _ a0_2 [.int .i64 a0_2] from rfl) (Reps.one (show Kd.M (Kd.int .i64) _ _ _ a0_3 [.int .i64 a0_3] from rfl) (Reps.none _ _)))))); intro v179 w7 ho8 hb hg_ hnew_; clear hg_ hnew_; (first | rw [← Ny178.out] at ho8 | (simp only [Int.reduceToNat] at ho8; rw [← Ny178.out] at ho8)); have HO180 := Aside0.mk (Kd.R_lower ho8 (below_size (bw_ HB).out)); replace BK177 := bb_ BK177 hb; replace HB := bt_ HB hb; clear hb ho8; obtain ⟨Ao9, co9, eo9⟩ := Kd.R_slice HO180.out; subst eo9) | ((refine gc_ 29 ?_); refine ge_ 16 Try.func29 #[.int .i64 1000, .slice Ao9 y178.length co9] ?_; (with_reducible refine (impl_within.calls k 1000 _ _ y178 true _ ?side1 ?side2 A2.out).mono ?_); (case side1 => exact ca_ (Kd.R_reads' HO180.out).2.2); (case side2 => exact (Kd.R_reads' HO180.out).2.1); rintro e w' ⟨rfl, ⟨nd, rfl⟩⟩; refine ⟨_, rfl, ?_⟩; obtain ⟨hcz10_0, hcz10_1, hcz10_2, hcz10_3, hfz10_0, hfz10_1, hfz10_2, hfz10_3⟩ := ch4_ BK177) | (go_at_call 30; (with_reducible refine (impl_determinant.calls a0_0 a0_1 a0_2 a0_3 t182 _ A4.out).mono ?_); rintro e w11 ⟨rfl, hb⟩; replace HO180 := rb_ HO180 hb; replace BK177 := bb_ BK177 hb; replace HB := bt_ HB hb; (try clear hb)))
  go_ret
  exact ⟨es_, (bw_ HB).out⟩
 obtain rfl := si_ H
 go_enter Try.func8, Try.ntmps8
 go_wp2_with (first | ((refine gd_ 1 ?_); refine by_ 1 #[.int .i64 a0_0, .int .i64 a0_1, .int .i64 a0_2, .int .i64 a0_3] 26 HB ?_; intro gb177 hg w12 BK177 hb GW177 HB_; replace HB := HB_; clear hb hg; obtain ⟨hcz13_0, hcz13_1, hcz13_2, hcz13_3, hfz13_0, hfz13_1, hfz13_2, hfz13_3⟩ := ch4_ BK177) | ((refine gd_ 15 ?_); refine Kd.R_lit (Kd.int .i64) _ 2 ?hg (N := 15) ?hd (xs := ([a0_0, a0_1, a0_2, a0_3] : List Int)) (inner := [.int .i64 a0_0, .int .i64 a0_1, .int .i64 a0_2, .int .i64 a0_3]) (ok := fun _ => True) (okp := fun _ => True) ?hr ?hp (fun _ hk => hk) trivial (Below.refl _ _) (Nat.le_refl _) (by simp) ?_; (case hd => rfl); (case hg => rfl); (case hr => first | (go_simp; done) | (go_simp; rfl)); (case hp => exact (Reps.one (show Kd.M (Kd.int .i64) _ _ _ a0_0 [.int .i64 a0_0] from rfl) (Reps.one (show Kd.M (Kd.int .i64) _ _ _ a0_1 [.int .i64 a0_1] from rfl) (Reps.one (show Kd.M (Kd.int .i64) _ _ _ a0_2 [.int .i64 a0_2] from rfl) (Reps.one (show Kd.M (Kd.int .i64) _ _ _ a0_3 [.int .i64 a0_3] from rfl) (Reps.none _ _)))))); intro v179 w14 ho15 hb hg_ hnew_; clear hg_ hnew_; (first | rw [← Ny178.out] at ho15 | (simp only [Int.reduceToNat] at ho15; rw [← Ny178.out] at ho15)); have HO180 := Aside0.mk (Kd.R_lower ho15 (below_size (bw_ HB).out)); replace BK177 := bb_ BK177 hb; replace HB := bt_ HB hb; clear hb ho15; obtain ⟨Ao16, co16, eo16⟩ := Kd.R_slice HO180.out; subst eo16) | ((refine gc_ 29 ?_); refine ge_ 16 Try.func29 #[.int .i64 1000, .slice Ao16 y178.length co16] ?_; (with_reducible refine (impl_within.calls k 1000 _ _ y178 false _ ?side1 ?side2 A2.out).mono ?_); (case side1 => exact ca_ (Kd.R_reads' HO180.out).2.2); (case side2 => exact (Kd.R_reads' HO180.out).2.1); rintro e w' ⟨rfl, ⟨nd, rfl⟩⟩; refine ⟨_, rfl, ?_⟩))
 go_ret
 exact ⟨es_, (bw_ HB).out⟩
/-! ### impl_areMatrices: function 24 -/
def impl_areMatrices.l0 : Nat → List (S26) → Int → Int → Option (Bool)
 | 0, _, _, _ => none
 | k + 1, x5, x6, x7 => if x7 < x6 then (if 0 ≤ x7 then (if x7 < (x5.length : Int) then ((impl_IsMatrix.f k ((rd_T26 x5 x7).f0.f0) ((rd_T26 x5 x7).f0.f1) ((rd_T26 x5 x7).f1.f0) ((rd_T26 x5 x7).f1.f1)).bind fun t185 => (if t185 = true then (impl_areMatrices.l0 k x5 x6 (wrap64 (x7 + 1))) else (some false))) else (none)) else (none)) else (some true)
def impl_areMatrices.f (k : Nat) (l0 : List (S26)) : Option (Bool) := impl_areMatrices.l0 k l0 (l0.length : Int) 0
theorem impl_areMatrices.calls (k : Nat) (A0 : Option Addr) (c0 : Nat) (l0 : List (S26)) (r : Bool) (w : World) (hr0 : Kd.C k26 w A0 l0.length l0) (hc0 : l0.length ≤ c0) (h : impl_areMatrices.f k l0 = some r) :
  Calls Try.prog 24 #[.slice A0 l0.length c0] w fun e w' => e = .returned (.bool r) ∧ Below w.heap.size w w' := by
 have hu26 := Try.underlying26
 have HR0 := Aside0.mk hr0
 have HC0 := Aside0.mk hc0
 clear hr0 hc0
 have HB := Aside0.mk (Below.refl w.heap.size w)
 unfold impl_areMatrices.f at h
 have H := h
 clear h
 have H' := Aside0.mk H
 clear H
 go_enter Try.func24, Try.ntmps24
 go_wp2
 go_loopg [7] k (fun kq v7 w' => ∃ (x7_1 : Int), v7 = .int .i64 x7_1 ∧ Aside0 (impl_areMatrices.l0 kq l0 (l0.length : Int) x7_1 = some r) ∧ Aside0 (kq ≤ k) ∧ Aside0 (Below w.heap.size w w'))
 case atStart => exact ⟨(0), en_, H', ⟨Nat.le_refl _⟩, bw_ HB⟩
 clear H'
 obtain ⟨x7_1, rfl, HA, HK1, HB⟩ := hrel
 cases gk with
 | zero => exact absurd HA.out (by simp [impl_areMatrices.l0])
 | succ k1 =>
  have H := HA.out
  clear HA
  simp only [impl_areMatrices.l0] at H
  replace H := il_ H
  rcases H with ⟨c2b0, H⟩ | ⟨c2b0, H⟩
  ·replace H := imn_ H
   obtain ⟨c3b0, H⟩ := H
   replace H := iln_ H
   obtain ⟨c4b0, H⟩ := H
   replace H := oc_ H
   obtain ⟨t185, A5, H⟩ := H
   replace H := ib_ H
   rcases H with ⟨rfl, H⟩ | ⟨rfl, H⟩
   ·have H' := Aside0.mk H
    clear H
    have p183 : 0 ≤ (x7_1 : Int) := od_
    have q183 : x7_1 < (l0.length : Int) := od_
    obtain ⟨ad183, e183, hx183_0, hx183_1, hx183_2, hx183_3⟩ := at_T26 HR0.out x7_1 p183 q183
    cases e183
    replace hx183_0 := clTr HB.out hx183_0
    replace hx183_1 := clTr HB.out hx183_1
    replace hx183_2 := clTr HB.out hx183_2
    replace hx183_3 := clTr HB.out hx183_3
    replace p183 := eq_true p183
    replace q183 := eq_true q183
    go_wp2_with (first | ((refine gd_ 4 ?_); refine by_ 4 #[.int .i64 0, .int .i64 0, .int .i64 0, .int .i64 0] 26 HB ?_; intro gb184 hg w7 BK184 hb GW184 HB_; replace HB := HB_; clear hb hg; obtain ⟨hcz8_0, hcz8_1, hcz8_2, hcz8_3, hfz8_0, hfz8_1, hfz8_2, hfz8_3⟩ := ch4_ BK184) | ((refine gc_ 8 ?_); refine ge_ 12 Try.func8 #[.agg #[.int .i64 ((rd_T26 l0 x7_1).f0.f0), .int .i64 ((rd_T26 l0 x7_1).f0.f1), .int .i64 ((rd_T26 l0 x7_1).f1.f0), .int .i64 ((rd_T26 l0 x7_1).f1.f1)]] ?_; (with_reducible refine (impl_IsMatrix.calls k1 ((rd_T26 l0 x7_1).f0.f0) ((rd_T26 l0 x7_1).f0.f1) ((rd_T26 l0 x7_1).f1.f0) ((rd_T26 l0 x7_1).f1.f1) true _ A5.out).mono ?_); rintro e w9 ⟨rfl, hb⟩; refine ⟨_, rfl, ?_⟩; replace BK184 := Aside0.mk (blk_below (g := gb184) (o := .cells #[.int .i64 ((rd_T26 l0 x7_1).f0.f0), .int .i64 ((rd_T26 l0 x7_1).f0.f1), .int .i64 ((rd_T26 l0 x7_1).f1.f0), .int .i64 ((rd_T26 l0 x7_1).f1.f1)] 26 (0, 0)) (bp_ BK184).out hb); replace HB := bt_ HB hb; (try clear hb)))
    go_roundg k1
    case measure => have := HK1.out; omega
    case rel => exact ⟨(wrap64 (x7_1 + 1)), en_, H', ⟨by have := HK1.out; omega⟩, bw_ HB⟩
   obtain rfl := si_ H
   have p183 : 0 ≤ (x7_1 : Int) := od_
   have q183 : x7_1 < (l0.length : Int) := od_
   obtain ⟨ad183, e183, hx183_0, hx183_1, hx183_2, hx183_3⟩ := at_T26 HR0.out x7_1 p183 q183
   cases e183
   replace hx183_0 := clTr HB.out hx183_0
   replace hx183_1 := clTr HB.out hx183_1
   replace hx183_2 := clTr HB.out hx183_2
   replace hx183_3 := clTr HB.out hx183_3
   replace p183 := eq_true p183
   replace q183 := eq_true q183
   go_wp2_with (first | ((refine gd_ 4 ?_); refine by_ 4 #[.int .i64 0, .int .i64 0, .int .i64 0, .int .i64 0] 26 HB ?_; intro gb184 hg w10 BK184 hb GW184 HB_; replace HB := HB_; clear hb hg; obtain ⟨hcz11_0, hcz11_1, hcz11_2, hcz11_3, hfz11_0, hfz11_1, hfz11_2, hfz11_3⟩ := ch4_ BK184) | ((refine gc_ 8 ?_); refine ge_ 12 Try.func8 #[.agg #[.int .i64 ((rd_T26 l0 x7_1).f0.f0), .int .i64 ((rd_T26 l0 x7_1).f0.f1), .int .i64 ((rd_T26 l0 x7_1).f1.f0), .int .i64 ((rd_T26 l0 x7_1).f1.f1)]] ?_; (with_reducible refine (impl_IsMatrix.calls k1 ((rd_T26 l0 x7_1).f0.f0) ((rd_T26 l0 x7_1).f0.f1) ((rd_T26 l0 x7_1).f1.f0) ((rd_T26 l0 x7_1).f1.f1) false _ A5.out).mono ?_); rintro e w12 ⟨rfl, hb⟩; refine ⟨_, rfl, ?_⟩; replace BK184 := Aside0.mk (blk_below (g := gb184) (o := .cells #[.int .i64 ((rd_T26 l0 x7_1).f0.f0), .int .i64 ((rd_T26 l0 x7_1).f0.f1), .int .i64 ((rd_T26 l0 x7_1).f1.f0), .int .i64 ((rd_T26 l0 x7_1).f1.f1)] 26 (0, 0)) (bp_ BK184).out hb); replace HB := bt_ HB hb; (try clear hb)))
   go_ret
   exact ⟨es_, (bw_ HB).out⟩
  obtain rfl := si_ H
  go_wp2
  go_ret
  exact ⟨es_, (bw_ HB).out⟩
/-! ### impl_fittedMatrix: function 25 -/
def impl_fittedMatrix.f (a0_0 a0_1 a0_2 a0_3 : Int) (a1 : Bool) : Option (Int × Int × Int × Int × Int) := if a1 = true then (some (a0_0, a0_1, a0_2, a0_3, 0)) else (some (0, 0, 0, 0, 3))
theorem impl_fittedMatrix.calls (a0_0 a0_1 a0_2 a0_3 : Int) (a1 : Bool) (r1 r2 r3 r4 r5 : Int) (w : World) (h : impl_fittedMatrix.f a0_0 a0_1 a0_2 a0_3 a1 = some (r1, r2, r3, r4, r5)) :
  Calls Try.prog 25 #[.agg #[.int .i64 a0_0, .int .i64 a0_1, .int .i64 a0_2, .int .i64 a0_3], .bool a1] w fun e w' => e = .returned (.tuple #[.agg #[.int .i64 r1, .int .i64 r2, .int .i64 r3, .int .i64 r4], .int .i64 r5]) ∧ Below w.heap.size w w' := by
 have hu26 := Try.underlying26
 have HB := Aside0.mk (Below.refl w.heap.size w)
 unfold impl_fittedMatrix.f at h
 have H := h
 clear h
 replace H := ib_ H
 rcases H with ⟨rfl, H⟩ | ⟨rfl, H⟩
 ·simp only [Option.some.injEq, Prod.mk.injEq] at H
  obtain ⟨rfl, rfl, rfl, rfl, rfl⟩ := H
  go_enter Try.func25, Try.ntmps25
  go_wp2_with (first | ((refine gd_ 2 ?_); refine by_ 2 #[.int .i64 a0_0, .int .i64 a0_1, .int .i64 a0_2, .int .i64 a0_3] 26 HB ?_; intro gb186 hg w4 BK186 hb GW186 HB_; replace HB := HB_; clear hb hg) | ((refine gd_ 4 ?_); refine by_ 4 #[.int .i64 0, .int .i64 0, .int .i64 0, .int .i64 0] 26 HB ?_; intro gb187 hg w5 BK187 hb GW187 HB_; have NB186_187 := bm_ BK186 hg; have NB187_186 := bn_ BK186 hg; replace BK186 := bb_ BK186 hb; replace HB := HB_; clear hb hg; have hnb6 := NB186_187.out; have hnc6 := NB187_186.out; obtain ⟨hcz7_0, hcz7_1, hcz7_2, hcz7_3, hfz7_0, hfz7_1, hfz7_2, hfz7_3⟩ := ch4_ BK186; obtain ⟨hcz8_0, hcz8_1, hcz8_2, hcz8_3, hfz8_0, hfz8_1, hfz8_2, hfz8_3⟩ := ch4_ BK187))
  refine bodyPost_ret (results_ct rfl _ _ gb187 26 #[.int .i64 a0_0, .int .i64 a0_1, .int .i64 a0_2, .int .i64 a0_3] (0, 0) _ rfl (bp_ BK187).out Try.underlying26 rfl (by kernel_rfl)) rfl ?_
  exact ⟨es_, (bw_ HB).out⟩
 simp only [Option.some.injEq, Prod.mk.injEq] at H
 obtain ⟨rfl, rfl, rfl, rfl, rfl⟩ := H
 go_enter Try.func25, Try.ntmps25
 go_wp2_with (first | ((refine gd_ 2 ?_); refine by_ 2 #[.int .i64 a0_0, .int .i64 a0_1, .int .i64 a0_2, .int .i64 a0_3] 26 HB ?_; intro gb186 hg w9 BK186 hb GW186 HB_; replace HB := HB_; clear hb hg) | ((refine gd_ 4 ?_); refine by_ 4 #[.int .i64 0, .int .i64 0, .int .i64 0, .int .i64 0] 26 HB ?_; intro gb187 hg w10 BK187 hb GW187 HB_; have NB186_187 := bm_ BK186 hg; have NB187_186 := bn_ BK186 hg; replace BK186 := bb_ BK186 hb; replace HB := HB_; clear hb hg; have hnb11 := NB187_186.out; have hnc11 := NB186_187.out; obtain ⟨hcz12_0, hcz12_1, hcz12_2, hcz12_3, hfz12_0, hfz12_1, hfz12_2, hfz12_3⟩ := ch4_ BK187))
 refine bodyPost_ret (results_ct rfl _ _ gb187 26 #[.int .i64 0, .int .i64 0, .int .i64 0, .int .i64 0] (0, 0) _ rfl (bp_ BK187).out Try.underlying26 rfl (by kernel_rfl)) rfl ?_
 exact ⟨es_, (bw_ HB).out⟩
/-! ### impl_gcd: function 42 -/
def impl_gcd.l0 : Nat → Int → Int → Option (Int)
 | 0, _, _ => none
 | k + 1, x0, x1 => if x1 = 0 then (some (mx x0 (wrap64 (-x0)))) else (impl_gcd.l0 k x1 (Int.tmod x0 x1))
def impl_gcd.f (k : Nat) (a0 a1 : Int) : Option (Int) := impl_gcd.l0 k a0 a1
theorem impl_gcd.calls (k : Nat) (a0 a1 r : Int) (w : World) (h : impl_gcd.f k a0 a1 = some r) :
  Calls Try.prog 42 #[.int .i64 a0, .int .i64 a1] w fun e w' => e = .returned (.int .i64 r) ∧ Below w.heap.size w w' := by
 have HB := Aside0.mk (Below.refl w.heap.size w)
 unfold impl_gcd.f at h
 have H := h
 clear h
 have H' := Aside0.mk H
 clear H
 go_enter Try.func42, Try.ntmps42
 go_wp2
 repeat (go_quiet (fail); try go_wp2)
 go_loopg [0, 1] k (fun kq v0 v1 w' => ∃ (x0_1 : Int) (x1_1 : Int), v0 = .int .i64 x0_1 ∧ v1 = .int .i64 x1_1 ∧ Aside0 (impl_gcd.l0 kq x0_1 x1_1 = some r) ∧ Aside0 (kq ≤ k) ∧ Aside0 (Below w.heap.size w w'))
 case atStart => exact ⟨(a0), (a1), en_, en_, H', ⟨Nat.le_refl _⟩, bw_ HB⟩
 clear H'
 obtain ⟨x0_1, x1_1, rfl, rfl, HA, HK1, HB⟩ := hrel
 cases gk with
 | zero => exact absurd HA.out (by simp [impl_gcd.l0])
 | succ k1 =>
  have H := HA.out
  clear HA
  simp only [impl_gcd.l0] at H
  replace H := ie_ H
  rcases H with ⟨c3b0, c3b1, H⟩ | ⟨c3, c3b0, c3b1, H⟩
  ·obtain ⟨ji4, hji4⟩ : ∃ j_ : Int, (mx x0_1 (wrap64 (-x0_1))) = j_ := ⟨_, rfl⟩
   replace H : (some ji4) = some r := by first | (rw [hji4] at H; exact H) | (simp only [hji4] at H ⊢; exact H)
   have hji4_k : (if x0_1 < (IntKind.i64.wrap (-x0_1)) then (IntKind.i64.wrap (-x0_1)) else x0_1) = ji4 := by simp only [i64_w]; exact hji4
   have hji4_ : (if x0_1 < (wrap64 (-x0_1)) then (wrap64 (-x0_1)) else x0_1) = ji4 := hji4
   obtain rfl := si_ H
   go_wp2
   repeat (go_quiet (fail); try go_wp2)
   go_ret
   exact ⟨by first | rfl | (simp [errW_none, errW_some] <;> rfl) | (simp only [← hji4]; first | rfl | (simp [errW_none, errW_some] <;> rfl)) | (simp [*, errW_none, errW_some] <;> rfl), (bw_ HB).out⟩
  have H' := Aside0.mk H
  clear H
  go_wp2
  repeat (go_quiet (fail); try go_wp2)
  go_roundg k1
  case measure => have := HK1.out; omega
  case rel => exact ⟨(x1_1), (Int.tmod x0_1 x1_1), en_, en_, H', ⟨by have := HK1.out; omega⟩, bw_ HB⟩
end Go.Proofs.Yteniblbnmcfmjaa.QM
