import Derived.Test.YtdfcoebadjhjlaaQHx7
import Derived.Test.YtdfcoebadjhjlaaQHx24
import Derived.Test.YtdfcoebadjhjlaaQHx27
import Derived.Test.YtdfcoebadjhjlaaQHx28
namespace Go.Proofs.Ytdfcoebadjhjlaa.QH
set_option maxHeartbeats 8000000
set_option maxRecDepth 100000
open Go.RowKit Go.Proofs.YtdfcoebadjhjlaaW.PrintWords Go.Proofs.YtdfcoebadjhjlaaW.PrintLast Go.Proofs.YtdfcoebadjhjlaaW.PrintMore
attribute [local go_sem] isSome_setCell max2_int min2_int max_two min_two max_three min_three max_four min_four
set_option linter.unusedVariables false
set_option linter.unusedSimpArgs false

/-! ### spec_l08Code: function 39 -/
def spec_l08Code.j0 : Nat → Int → Bool → Int → Int → Int → List (S72) → Int → Int → Int → Option (Int)
 | 0, _, _, _, _, _, _, _, _, _ => none
 | k + 1, x0, x7, x206000, x206001, x206002, x206003, x207000, x207001, x207002 => if x7 = true then (some 1) else ((spec_l01Holds.f k x0 x206000 x206001 x206002 x207000 x207001 x207002).bind fun t209 => (if t209 = true then (some 0) else (some 2)))
def spec_l08Code.f (k : Nat) (a0 a1_0 a1_1 a1_2 : Int) (l1_3 : List (S72)) (a2_0 a2_1 a2_2 : Int) : Option (Int) := (spec_l08Is.f k a0 a1_0 a1_1 a1_2 l1_3).bind fun t207 => (if t207 = true then ((spec_l01Is.f k a0 a2_0 a2_1 a2_2).bind fun t208 => (spec_l08Code.j0 k a0 (!t208) a1_0 a1_1 a1_2 l1_3 a2_0 a2_1 a2_2)) else (spec_l08Code.j0 k a0 true a1_0 a1_1 a1_2 l1_3 a2_0 a2_1 a2_2))
theorem spec_l08Code.calls (k : Nat) (a0 a1_0 a1_1 a1_2 : Int) (A1_3 : Option Addr) (c1_3 : Nat) (l1_3 : List (S72)) (a2_0 a2_1 a2_2 r : Int) (w : World) (hr1_3 : Kd.C k72 w A1_3 l1_3.length l1_3) (hc1_3 : l1_3.length ≤ c1_3) (h : spec_l08Code.f k a0 a1_0 a1_1 a1_2 l1_3 a2_0 a2_1 a2_2 = some r) :
  Calls Try.prog 39 #[.int .i64 a0, .agg #[.int .i64 a1_0, .int .i64 a1_1, .int .i64 a1_2, .slice A1_3 l1_3.length c1_3], .agg #[.int .i64 a2_0, .int .i64 a2_1, .int .i64 a2_2]] w fun e w' => e = .returned (.int .i64 r) ∧ Below w.heap.size w w' := by
 have hu34 := Try.underlying34
 have hu31 := Try.underlying31
 have HR1_3 := Aside0.mk hr1_3
 have HC1_3 := Aside0.mk hc1_3
 clear hr1_3 hc1_3
 have HB := Aside0.mk (Below.refl w.heap.size w)
 unfold spec_l08Code.f at h
 have H := h
 clear h
 have HC4 := Aside0.mk H
 clear H
 go_enter Try.func39, Try.ntmps39
 go_upto_region 1 with (first | ((refine gd_ 4 ?_); refine by_ 4 #[.int .i64 a1_0, .int .i64 a1_1, .int .i64 a1_2, .slice A1_3 l1_3.length c1_3] 34 HB ?_; intro gb205 hg w5 BK205 hb GW205 HB_; replace HB := HB_; clear hb hg) | ((refine gd_ 5 ?_); refine by_ 5 #[.int .i64 a2_0, .int .i64 a2_1, .int .i64 a2_2] 31 HB ?_; intro gb206 hg w6 BK206 hb GW206 HB_; have NB205_206 := bm_ BK205 hg; have NB206_205 := bn_ BK205 hg; replace BK205 := bb_ BK205 hb; replace HB := HB_; clear hb hg))
 (try simp only [Act.put, lstS, lstZ, lstC])
 go_cut [7] (fun v7 wc => ∃ (kq : Nat) (x7_3 : Bool), v7 = .bool x7_3 ∧ Aside0 (spec_l08Code.j0 kq a0 x7_3 a1_0 a1_1 a1_2 l1_3 a2_0 a2_1 a2_2 = some r) ∧ Aside0 (kq ≤ k) ∧ Aside0 (wc.heap[gb205]? = some (.cells #[.int .i64 a1_0, .int .i64 a1_1, .int .i64 a1_2, (.slice A1_3 l1_3.length c1_3)] 34 (0, 0))) ∧ Aside0 (wc.heap[gb206]? = some (.cells #[.int .i64 a2_0, .int .i64 a2_1, .int .i64 a2_2] 31 (0, 0))) ∧ Aside0 (Below w.heap.size w wc))
 case first =>
  have H := HC4.out
  clear HC4
  replace H := oc_ H
  obtain ⟨t207, A7, H⟩ := H
  replace H := ib_ H
  rcases H with ⟨rfl, H⟩ | ⟨rfl, H⟩
  ·replace H := oc_ H
   obtain ⟨t208, A9, H⟩ := H
   have H' := Aside0.mk H
   clear H
   have hnb10 := NB205_206.out
   have hnc10 := NB206_205.out
   obtain ⟨hcz11_0, hcz11_1, hcz11_2, hcz11_3, hfz11_0, hfz11_1, hfz11_2, hfz11_3⟩ := ch4_ BK205
   go_wp2_with (first | ((refine gc_ 30 ?_); refine ge_ 10 Try.func30 #[.int .i64 a0, .agg #[.int .i64 a1_0, .int .i64 a1_1, .int .i64 a1_2, .slice A1_3 l1_3.length c1_3]] ?_; (with_reducible refine (spec_l08Is.calls k a0 a1_0 a1_1 a1_2 _ _ l1_3 true _ ?side1 ?side2 A7.out).mono ?_); (case side1 => exact ca_ (Kd.C_below HR1_3.out (bw_ HB).out)); (case side2 => exact HC1_3.out); rintro e w12 ⟨rfl, hb⟩; refine ⟨_, rfl, ?_⟩; replace BK205 := bb_ BK205 hb; replace BK206 := bb_ BK206 hb; replace HB := bt_ HB hb; (try clear hb); obtain ⟨hcz13_0, hcz13_1, hcz13_2, hfz13_0, hfz13_1, hfz13_2⟩ := ch3_ BK206) | (go_at_call 60; (with_reducible refine (spec_l01Is.calls k a0 a2_0 a2_1 a2_2 t208 _ A9.out).mono ?_); rintro e w14 ⟨rfl, hb⟩; replace BK205 := bb_ BK205 hb; replace BK206 := bb_ BK206 hb; replace HB := bt_ HB hb; (try clear hb)))
   go_meet
   case rel => exact ⟨_, (!t208), en_, H', ⟨by first | omega | exact Nat.le_refl _⟩, bl_ BK205, bl_ BK206, bw_ HB⟩
  have H' := Aside0.mk H
  clear H
  have hnb15 := NB205_206.out
  have hnc15 := NB206_205.out
  obtain ⟨hcz16_0, hcz16_1, hcz16_2, hcz16_3, hfz16_0, hfz16_1, hfz16_2, hfz16_3⟩ := ch4_ BK205
  go_wp2_with (first | ((refine gc_ 30 ?_); refine ge_ 10 Try.func30 #[.int .i64 a0, .agg #[.int .i64 a1_0, .int .i64 a1_1, .int .i64 a1_2, .slice A1_3 l1_3.length c1_3]] ?_; (with_reducible refine (spec_l08Is.calls k a0 a1_0 a1_1 a1_2 _ _ l1_3 false _ ?side1 ?side2 A7.out).mono ?_); (case side1 => exact ca_ (Kd.C_below HR1_3.out (bw_ HB).out)); (case side2 => exact HC1_3.out); rintro e w17 ⟨rfl, hb⟩; refine ⟨_, rfl, ?_⟩; replace BK205 := bb_ BK205 hb; replace BK206 := bb_ BK206 hb; replace HB := bt_ HB hb; (try clear hb)))
  go_meet
  case rel => exact ⟨_, (true), en_, H', ⟨by first | omega | exact Nat.le_refl _⟩, bl_ BK205, bl_ BK206, bw_ HB⟩
 clear HC4
 try clear hcz11_0 hcz11_1 hcz11_2 hcz11_3
 try clear hcz13_0 hcz13_1 hcz13_2
 try clear hcz16_0 hcz16_1 hcz16_2 hcz16_3
 try clear hfz11_0 hfz11_1 hfz11_2 hfz11_3
 try clear hfz13_0 hfz13_1 hfz13_2
 try clear hfz16_0 hfz16_1 hfz16_2 hfz16_3
 obtain ⟨kq, x7_3, rfl, HA, HJ3, BK205, BK206, HB⟩ := hcut
 cases kq with
 | zero => exact absurd HA.out (by simp [spec_l08Code.j0])
 | succ kj3 =>
  have H := HA.out
  clear HA
  simp only [spec_l08Code.j0] at H
  replace H := ib_ H
  rcases H with ⟨rfl, H⟩ | ⟨rfl, H⟩
  ·obtain rfl := si_ H
   go_wp2
   go_ret
   exact ⟨es_, (bw_ HB).out⟩
  replace H := oc_ H
  obtain ⟨t209, A19, H⟩ := H
  replace H := ib_ H
  rcases H with ⟨rfl, H⟩ | ⟨rfl, H⟩
  ·obtain rfl := si_ H
   have hnb21 := NB205_206.out
   have hnc21 := NB206_205.out
   obtain ⟨hcz22_0, hcz22_1, hcz22_2, hcz22_3, hfz22_0, hfz22_1, hfz22_2, hfz22_3⟩ := ch4_ BK205
   obtain ⟨hcz23_0, hcz23_1, hcz23_2, hfz23_0, hfz23_1, hfz23_2⟩ := ch3_ BK206
   go_wp2_with (first | ((refine gc_ 41 ?_); refine ge_ 23 Try.func41 #[.int .i64 a0, .agg #[.int .i64 a1_0, .int .i64 a1_1, .int .i64 a1_2], .agg #[.int .i64 a2_0, .int .i64 a2_1, .int .i64 a2_2]] ?_; (with_reducible refine (spec_l01Holds.calls kj3 a0 a1_0 a1_1 a1_2 a2_0 a2_1 a2_2 true _ A19.out).mono ?_); rintro e w24 ⟨rfl, hb⟩; refine ⟨_, rfl, ?_⟩; replace BK205 := bb_ BK205 hb; replace BK206 := bb_ BK206 hb; replace HB := bt_ HB hb; (try clear hb)))
   go_ret
   exact ⟨es_, (bw_ HB).out⟩
  obtain rfl := si_ H
  have hnb25 := NB205_206.out
  have hnc25 := NB206_205.out
  obtain ⟨hcz26_0, hcz26_1, hcz26_2, hcz26_3, hfz26_0, hfz26_1, hfz26_2, hfz26_3⟩ := ch4_ BK205
  obtain ⟨hcz27_0, hcz27_1, hcz27_2, hfz27_0, hfz27_1, hfz27_2⟩ := ch3_ BK206
  go_wp2_with (first | ((refine gc_ 41 ?_); refine ge_ 23 Try.func41 #[.int .i64 a0, .agg #[.int .i64 a1_0, .int .i64 a1_1, .int .i64 a1_2], .agg #[.int .i64 a2_0, .int .i64 a2_1, .int .i64 a2_2]] ?_; (with_reducible refine (spec_l01Holds.calls kj3 a0 a1_0 a1_1 a1_2 a2_0 a2_1 a2_2 false _ A19.out).mono ?_); rintro e w28 ⟨rfl, hb⟩; refine ⟨_, rfl, ?_⟩; replace BK205 := bb_ BK205 hb; replace BK206 := bb_ BK206 hb; replace HB := bt_ HB hb; (try clear hb)))
  go_ret
  exact ⟨es_, (bw_ HB).out⟩
attribute [local go_sem high] eqA31
/-! ### spec_l08Within: function 40 -/
def spec_l08Within.l0 : Nat → Int → Int → Int → Int → Int → List (S72) → Int → Int → Int → Option (Bool × Bool)
 | 0, _, _, _, _, _, _, _, _, _ => none
 | k + 1, x0, x8, x211000, x211001, x211002, x211003, x212000, x212001, x212002 => if x8 < (x211003.length : Int) then (if 0 ≤ x8 then ((spec_l01Holds.f k x0 ((rd_T72 x211003 x8).f0.f0) ((rd_T72 x211003 x8).f0.f1) ((rd_T72 x211003 x8).f0.f2) x212000 x212001 x212002).bind fun t213 => (if t213 = true then (some (true, (((rd_T72 x211003 x8).f0.f0) == x212000 && (((rd_T72 x211003 x8).f0.f1) == x212001 && (((rd_T72 x211003 x8).f0.f2) == x212002))))) else (spec_l08Within.l0 k x0 (wrap64 (x8 + 1)) x211000 x211001 x211002 x211003 x212000 x212001 x212002))) else (none)) else (some (false, false))
def spec_l08Within.f (k : Nat) (a0 a1_0 a1_1 a1_2 : Int) (l1_3 : List (S72)) (a2_0 a2_1 a2_2 : Int) : Option (Bool × Bool) := spec_l08Within.l0 k a0 0 a1_0 a1_1 a1_2 l1_3 a2_0 a2_1 a2_2
def spec_l08Within.T4 : Bool × List (List Nat × List Nat) := (true, [([], []), ([], []), ([1], [1]), ([], []), ([2, 3], [2, 3]), ([4], [4]), ([5], [5]), ([], []), ([0, 6, 7], [0, 6, 7])])
def spec_l08Within.B4 : List Nat := [0, 0, 2, 0, 14, 30, 62, 0, 255]
theorem spec_l08Within.tab4 : rtab .any (opsOf Try.f40 4) = spec_l08Within.T4 := by kernel_rfl
theorem spec_l08Within.bits4 : waitsOk spec_l08Within.T4.2 spec_l08Within.B4 = true := by kernel_rfl
def spec_l08Within.T5 : Bool × List (List Nat × List Nat) := (true, [([], []), ([0], [0]), ([], []), ([1, 2], [1, 2]), ([3], [3]), ([4], [4]), ([], []), ([5, 6], [5, 6]), ([], []), ([7, 8, 0, 1, 2, 3, 4, 5, 6, 7, 8], [7])])
def spec_l08Within.B5 : List Nat := [0, 1, 0, 7, 15, 31, 0, 127, 0, 511]
theorem spec_l08Within.tab5 : rtab .any (opsOf Try.f40 5) = spec_l08Within.T5 := by kernel_rfl
theorem spec_l08Within.bits5 : waitsOk spec_l08Within.T5.2 spec_l08Within.B5 = true := by kernel_rfl
theorem spec_l08Within.calls (k : Nat) (a0 a1_0 a1_1 a1_2 : Int) (A1_3 : Option Addr) (c1_3 : Nat) (l1_3 : List (S72)) (a2_0 a2_1 a2_2 : Int) (r1 r2 : Bool) (w : World) (hr1_3 : Kd.C k72 w A1_3 l1_3.length l1_3) (hc1_3 : l1_3.length ≤ c1_3) (h : spec_l08Within.f k a0 a1_0 a1_1 a1_2 l1_3 a2_0 a2_1 a2_2 = some (r1, r2)) :
  Calls Try.prog 40 #[.int .i64 a0, .agg #[.int .i64 a1_0, .int .i64 a1_1, .int .i64 a1_2, .slice A1_3 l1_3.length c1_3], .agg #[.int .i64 a2_0, .int .i64 a2_1, .int .i64 a2_2]] w fun e w' => e = .returned (.tuple #[.bool r1, .bool r2]) ∧ Below w.heap.size w w' := by
 have hu34 := Try.underlying34
 have hu31 := Try.underlying31
 have hu72 := Try.underlying72
 have HR1_3 := Aside0.mk hr1_3
 have HC1_3 := Aside0.mk hc1_3
 clear hr1_3 hc1_3
 have HB := Aside0.mk (Below.refl w.heap.size w)
 unfold spec_l08Within.f at h
 have H := h
 clear h
 have H' := Aside0.mk H
 clear H
 go_enter Try.func40, Try.ntmps40
 go_wp2_with (first | ((refine gd_ 4 ?_); refine by_ 4 #[.int .i64 a1_0, .int .i64 a1_1, .int .i64 a1_2, .slice A1_3 l1_3.length c1_3] 34 HB ?_; intro gb210 hg w4 BK210 hb GW210 HB_; replace HB := HB_; clear hb hg) | ((refine gd_ 5 ?_); refine by_ 5 #[.int .i64 a2_0, .int .i64 a2_1, .int .i64 a2_2] 31 HB ?_; intro gb211 hg w5 BK211 hb GW211 HB_; have NB210_211 := bm_ BK210 hg; have NB211_210 := bn_ BK210 hg; replace BK210 := bb_ BK210 hb; replace HB := HB_; clear hb hg))
 go_loopg [8] k (fun kq v8 w' => ∃ (x8_1 : Int), v8 = .int .i64 x8_1 ∧ Aside0 (spec_l08Within.l0 kq a0 x8_1 a1_0 a1_1 a1_2 l1_3 a2_0 a2_1 a2_2 = some (r1, r2)) ∧ Aside0 (kq ≤ k) ∧ Aside0 (w'.heap[gb210]? = some (.cells #[.int .i64 a1_0, .int .i64 a1_1, .int .i64 a1_2, (.slice A1_3 l1_3.length c1_3)] 34 (0, 0))) ∧ Aside0 (w'.heap[gb211]? = some (.cells #[.int .i64 a2_0, .int .i64 a2_1, .int .i64 a2_2] 31 (0, 0))) ∧ Aside0 (Below w.heap.size w w'))
 case atStart => exact ⟨(0), en_, H', ⟨Nat.le_refl _⟩, bl_ BK210, bl_ BK211, bw_ HB⟩
 clear H'
 obtain ⟨x8_1, rfl, HA, HK1, BK210, BK211, HB⟩ := hrel
 cases gk with
 | zero => exact absurd HA.out (by simp [spec_l08Within.l0])
 | succ k1 =>
  have H := HA.out
  clear HA
  simp only [spec_l08Within.l0] at H
  replace H := il_ H
  rcases H with ⟨c6b0, H⟩ | ⟨c6b0, H⟩
  ·replace H := imn_ H
   obtain ⟨c7b0, H⟩ := H
   replace H := oc_ H
   obtain ⟨t213, A8, H⟩ := H
   replace H := ib_ H
   rcases H with ⟨rfl, H⟩ | ⟨rfl, H⟩
   ·simp only [Option.some.injEq, Prod.mk.injEq] at H
    obtain ⟨rfl, rfl⟩ := H
    have hnb10 := NB210_211.out
    have hnc10 := NB211_210.out
    obtain ⟨hcz11_0, hcz11_1, hcz11_2, hcz11_3, hfz11_0, hfz11_1, hfz11_2, hfz11_3⟩ := ch4_ BK210
    try go_wp2
    replace BK210 := bd_ BK210
    replace BK211 := bd_ BK211
    replace HB := be_ HB
    have p212 : 0 ≤ (x8_1 : Int) := od_
    have q212 : x8_1 < (l1_3.length : Int) := od_
    obtain ⟨ad212, e212, hx212_0, hx212_1, hx212_2, hx212_3⟩ := at_T72 HR1_3.out x8_1 p212 q212
    have hw212_3 := hx212_3
    have hw212_2 := hx212_2
    have hw212_1 := hx212_1
    have hw212_0 := hx212_0
    cases e212
    replace hx212_0 := clTr HB.out hx212_0
    replace hx212_1 := clTr HB.out hx212_1
    replace hx212_2 := clTr HB.out hx212_2
    replace hx212_3 := clTr HB.out hx212_3
    replace p212 := eq_true p212
    replace q212 := eq_true q212
    refine start_ (n := 9) (S := fun w' => w'.cell? ⟨gb210, 0, none⟩ = some (.int .i64 a1_0) ∧ w'.cell? ⟨gb210, 1, none⟩ = some (.int .i64 a1_1) ∧ w'.cell? ⟨gb210, 2, none⟩ = some (.int .i64 a1_2) ∧ w'.cell? ⟨gb210, 3, none⟩ = some (.slice (some ad212) l1_3.length c1_3) ∧ w'.cell? ⟨gb211, 0, none⟩ = some (.int .i64 a2_0) ∧ w'.cell? ⟨gb211, 1, none⟩ = some (.int .i64 a2_1) ∧ w'.cell? ⟨gb211, 2, none⟩ = some (.int .i64 a2_2) ∧ w'.cell? (ad212.add ((x8_1).toNat * 4)) = some (.int .i64 ((rd_T72 l1_3 x8_1).f0.f0)) ∧ w'.cell? ⟨(ad212.add ((x8_1).toNat * 4)).block, (ad212.add ((x8_1).toNat * 4)).off + 1, none⟩ = some (.int .i64 ((rd_T72 l1_3 x8_1).f0.f1)) ∧ w'.cell? ⟨(ad212.add ((x8_1).toNat * 4)).block, (ad212.add ((x8_1).toNat * 4)).off + 2, none⟩ = some (.int .i64 ((rd_T72 l1_3 x8_1).f0.f2)) ∧ w'.cell? ⟨(ad212.add ((x8_1).toNat * 4)).block, (ad212.add ((x8_1).toNat * 4)).off + 3, none⟩ = some (.int .i64 ((rd_T72 l1_3 x8_1).f1))) (ds := []) (bv_ 9 0) (by kernel_rfl) rfl rfl ⟨cz_ BK210 0, cz_ BK210 1, cz_ BK210 2, cz_ BK210 3, cz_ BK211 0, cz_ BK211 1, cz_ BK211 2, (clTr HB.out hw212_0 :), (clTr HB.out hw212_1 :), (clTr HB.out hw212_2 :), (clTr HB.out hw212_3 :)⟩ (fun hHeld => ?_); refine with_tabW spec_l08Within.tab4 spec_l08Within.bits4 (fun HT_ HW_ => ?_)
    generalize wr.drew = w12 at BK210 BK211 HB hx212_0 hx212_1 hx212_2 hx212_3 hHeld ⊢
    refine px_ HT_ 0 16 1 ?_
    refine px_ HT_ 1 17 3 ?_
    refine px_ HT_ 3 19 11 ?_
    refine ta_ HT_ HW_ 2 (some 18) (bv_ 9 15) hHeld ?_ (hy := by rintro w' ⟨s0, s1, s2, s3, s4, s5, s6, s7, s8, s9, s10⟩; go_simp; with_reducible rfl)
    refine px_ HT_ 4 20 31 ?_
    refine px_ HT_ 5 21 63 ?_
    refine ta_ HT_ HW_ 6 (some 22) (bv_ 9 127) hHeld ?_ (hy := by rintro w' ⟨s0, s1, s2, s3, s4, s5, s6, s7, s8, s9, s10⟩; go_simp; with_reducible rfl)
    refine ta_ HT_ HW_ 7 (some 23) (bv_ 9 255) hHeld ?_ (hy := by rintro w' ⟨s0, s1, s2, s3, s4, s5, s6, s7, s8, s9, s10⟩; go_simp; with_reducible rfl)
    refine on_ HT_ 8 (some 24) (bv_ 9 511) (fun K hK => ?_)
    refine gs_ Try.func41 #[.int .i64 a0, .agg #[.int .i64 ((rd_T72 l1_3 x8_1).f0.f0), .int .i64 ((rd_T72 l1_3 x8_1).f0.f1), .int .i64 ((rd_T72 l1_3 x8_1).f0.f2)], .agg #[.int .i64 a2_0, .int .i64 a2_1, .int .i64 a2_2]] ?_
    with_reducible refine (spec_l01Holds.calls k1 a0 ((rd_T72 l1_3 x8_1).f0.f0) ((rd_T72 l1_3 x8_1).f0.f1) ((rd_T72 l1_3 x8_1).f0.f2) a2_0 a2_1 a2_2 true _ A8.out).mono ?_
    rintro e w13 ⟨rfl, hb⟩
    refine ⟨_, rfl, ?_⟩
    replace BK210 := bb_ BK210 hb
    replace BK211 := bb_ BK211 hb
    replace HB := bt_ HB hb
    try clear hb
    refine hK.out _ _ ⟨cz_ BK210 0, cz_ BK210 1, cz_ BK210 2, cz_ BK210 3, cz_ BK211 0, cz_ BK211 1, cz_ BK211 2, (clTr HB.out hw212_0 :), (clTr HB.out hw212_1 :), (clTr HB.out hw212_2 :), (clTr HB.out hw212_3 :)⟩ (fun hHeld => ?_)
    clear hK K
    refine nm_ (some 24) ?_
    refine done_ (done_of HT_.out (by kernel_rfl)) ?_
    try go_wp2
    replace BK210 := bd_ BK210
    replace BK211 := bd_ BK211
    replace HB := be_ HB
    have p214 : 0 ≤ (x8_1 : Int) := od_
    have q214 : x8_1 < (l1_3.length : Int) := od_
    obtain ⟨ad214, e214, hx214_0, hx214_1, hx214_2, hx214_3⟩ := at_T72 HR1_3.out x8_1 p214 q214
    have hw214_3 := hx214_3
    have hw214_2 := hx214_2
    have hw214_1 := hx214_1
    have hw214_0 := hx214_0
    obtain rfl : ad212 = ad214 := (by injection e214)
    replace hx214_0 := clTr HB.out hx214_0
    replace hx214_1 := clTr HB.out hx214_1
    replace hx214_2 := clTr HB.out hx214_2
    replace hx214_3 := clTr HB.out hx214_3
    replace p214 := eq_true p214
    replace q214 := eq_true q214
    refine start_ (n := 10) (S := fun w' => w'.cell? ⟨gb210, 0, none⟩ = some (.int .i64 a1_0) ∧ w'.cell? ⟨gb210, 1, none⟩ = some (.int .i64 a1_1) ∧ w'.cell? ⟨gb210, 2, none⟩ = some (.int .i64 a1_2) ∧ w'.cell? ⟨gb210, 3, none⟩ = some (.slice (some ad212) l1_3.length c1_3) ∧ w'.cell? ⟨gb211, 0, none⟩ = some (.int .i64 a2_0) ∧ w'.cell? ⟨gb211, 1, none⟩ = some (.int .i64 a2_1) ∧ w'.cell? ⟨gb211, 2, none⟩ = some (.int .i64 a2_2) ∧ w'.cell? (ad212.add ((x8_1).toNat * 4)) = some (.int .i64 ((rd_T72 l1_3 x8_1).f0.f0)) ∧ w'.cell? ⟨(ad212.add ((x8_1).toNat * 4)).block, (ad212.add ((x8_1).toNat * 4)).off + 1, none⟩ = some (.int .i64 ((rd_T72 l1_3 x8_1).f0.f1)) ∧ w'.cell? ⟨(ad212.add ((x8_1).toNat * 4)).block, (ad212.add ((x8_1).toNat * 4)).off + 2, none⟩ = some (.int .i64 ((rd_T72 l1_3 x8_1).f0.f2)) ∧ w'.cell? ⟨(ad212.add ((x8_1).toNat * 4)).block, (ad212.add ((x8_1).toNat * 4)).off + 3, none⟩ = some (.int .i64 ((rd_T72 l1_3 x8_1).f1))) (ds := []) (bv_ 10 0) (by kernel_rfl) rfl rfl ⟨cz_ BK210 0, cz_ BK210 1, cz_ BK210 2, cz_ BK210 3, cz_ BK211 0, cz_ BK211 1, cz_ BK211 2, (clTr HB.out hw214_0 :), (clTr HB.out hw214_1 :), (clTr HB.out hw214_2 :), (clTr HB.out hw214_3 :)⟩ (fun hHeld => ?_); refine with_tabW spec_l08Within.tab5 spec_l08Within.bits5 (fun HT_ HW_ => ?_)
    generalize w13.drew = w14 at BK210 BK211 HB hx214_0 hx214_1 hx214_2 hx214_3 hHeld ⊢
    refine px_ HT_ 0 25 1 ?_
    refine px_ HT_ 2 27 5 ?_
    refine px_ HT_ 8 6 261 ?_
    refine ta_ HT_ HW_ 1 (some 26) (bv_ 10 263) hHeld ?_ (hy := by rintro w' ⟨s0, s1, s2, s3, s4, s5, s6, s7, s8, s9, s10⟩; go_simp; with_reducible rfl)
    refine px_ HT_ 3 28 271 ?_
    refine px_ HT_ 4 29 287 ?_
    refine ta_ HT_ HW_ 5 (some 30) (bv_ 10 319) hHeld ?_ (hy := by rintro w' ⟨s0, s1, s2, s3, s4, s5, s6, s7, s8, s9, s10⟩; go_simp; with_reducible rfl)
    refine ta_ HT_ HW_ 6 (some 31) (bv_ 10 383) hHeld ?_ (hy := by rintro w' ⟨s0, s1, s2, s3, s4, s5, s6, s7, s8, s9, s10⟩; go_simp; with_reducible rfl)
    refine px_ HT_ 7 32 511 ?_
    refine px_ HT_ 9 7 1023 ?_
    refine done_ (done_of HT_.out (by kernel_rfl)) ?_
    try go_wp2
    go_ret2
    exact ⟨es_, (bw_ HB).out⟩
   have H' := Aside0.mk H
   clear H
   have hnb15 := NB210_211.out
   have hnc15 := NB211_210.out
   obtain ⟨hcz16_0, hcz16_1, hcz16_2, hcz16_3, hfz16_0, hfz16_1, hfz16_2, hfz16_3⟩ := ch4_ BK210
   try go_wp2
   replace BK210 := bd_ BK210
   replace BK211 := bd_ BK211
   replace HB := be_ HB
   have p212 : 0 ≤ (x8_1 : Int) := od_
   have q212 : x8_1 < (l1_3.length : Int) := od_
   obtain ⟨ad212, e212, hx212_0, hx212_1, hx212_2, hx212_3⟩ := at_T72 HR1_3.out x8_1 p212 q212
   have hw212_3 := hx212_3
   have hw212_2 := hx212_2
   have hw212_1 := hx212_1
   have hw212_0 := hx212_0
   cases e212
   replace hx212_0 := clTr HB.out hx212_0
   replace hx212_1 := clTr HB.out hx212_1
   replace hx212_2 := clTr HB.out hx212_2
   replace hx212_3 := clTr HB.out hx212_3
   replace p212 := eq_true p212
   replace q212 := eq_true q212
   refine start_ (n := 9) (S := fun w' => w'.cell? ⟨gb210, 0, none⟩ = some (.int .i64 a1_0) ∧ w'.cell? ⟨gb210, 1, none⟩ = some (.int .i64 a1_1) ∧ w'.cell? ⟨gb210, 2, none⟩ = some (.int .i64 a1_2) ∧ w'.cell? ⟨gb210, 3, none⟩ = some (.slice (some ad212) l1_3.length c1_3) ∧ w'.cell? ⟨gb211, 0, none⟩ = some (.int .i64 a2_0) ∧ w'.cell? ⟨gb211, 1, none⟩ = some (.int .i64 a2_1) ∧ w'.cell? ⟨gb211, 2, none⟩ = some (.int .i64 a2_2) ∧ w'.cell? (ad212.add ((x8_1).toNat * 4)) = some (.int .i64 ((rd_T72 l1_3 x8_1).f0.f0)) ∧ w'.cell? ⟨(ad212.add ((x8_1).toNat * 4)).block, (ad212.add ((x8_1).toNat * 4)).off + 1, none⟩ = some (.int .i64 ((rd_T72 l1_3 x8_1).f0.f1)) ∧ w'.cell? ⟨(ad212.add ((x8_1).toNat * 4)).block, (ad212.add ((x8_1).toNat * 4)).off + 2, none⟩ = some (.int .i64 ((rd_T72 l1_3 x8_1).f0.f2)) ∧ w'.cell? ⟨(ad212.add ((x8_1).toNat * 4)).block, (ad212.add ((x8_1).toNat * 4)).off + 3, none⟩ = some (.int .i64 ((rd_T72 l1_3 x8_1).f1))) (ds := []) (bv_ 9 0) (by kernel_rfl) rfl rfl ⟨cz_ BK210 0, cz_ BK210 1, cz_ BK210 2, cz_ BK210 3, cz_ BK211 0, cz_ BK211 1, cz_ BK211 2, (clTr HB.out hw212_0 :), (clTr HB.out hw212_1 :), (clTr HB.out hw212_2 :), (clTr HB.out hw212_3 :)⟩ (fun hHeld => ?_); refine with_tabW spec_l08Within.tab4 spec_l08Within.bits4 (fun HT_ HW_ => ?_)
   generalize wr.drew = w17 at BK210 BK211 HB hx212_0 hx212_1 hx212_2 hx212_3 hHeld ⊢
   refine px_ HT_ 0 16 1 ?_
   refine px_ HT_ 1 17 3 ?_
   refine px_ HT_ 3 19 11 ?_
   refine ta_ HT_ HW_ 2 (some 18) (bv_ 9 15) hHeld ?_ (hy := by rintro w' ⟨s0, s1, s2, s3, s4, s5, s6, s7, s8, s9, s10⟩; go_simp; with_reducible rfl)
   refine px_ HT_ 4 20 31 ?_
   refine px_ HT_ 5 21 63 ?_
   refine ta_ HT_ HW_ 6 (some 22) (bv_ 9 127) hHeld ?_ (hy := by rintro w' ⟨s0, s1, s2, s3, s4, s5, s6, s7, s8, s9, s10⟩; go_simp; with_reducible rfl)
   refine ta_ HT_ HW_ 7 (some 23) (bv_ 9 255) hHeld ?_ (hy := by rintro w' ⟨s0, s1, s2, s3, s4, s5, s6, s7, s8, s9, s10⟩; go_simp; with_reducible rfl)
   refine on_ HT_ 8 (some 24) (bv_ 9 511) (fun K hK => ?_)
   refine gs_ Try.func41 #[.int .i64 a0, .agg #[.int .i64 ((rd_T72 l1_3 x8_1).f0.f0), .int .i64 ((rd_T72 l1_3 x8_1).f0.f1), .int .i64 ((rd_T72 l1_3 x8_1).f0.f2)], .agg #[.int .i64 a2_0, .int .i64 a2_1, .int .i64 a2_2]] ?_
   with_reducible refine (spec_l01Holds.calls k1 a0 ((rd_T72 l1_3 x8_1).f0.f0) ((rd_T72 l1_3 x8_1).f0.f1) ((rd_T72 l1_3 x8_1).f0.f2) a2_0 a2_1 a2_2 false _ A8.out).mono ?_
   rintro e w18 ⟨rfl, hb⟩
   refine ⟨_, rfl, ?_⟩
   replace BK210 := bb_ BK210 hb
   replace BK211 := bb_ BK211 hb
   replace HB := bt_ HB hb
   try clear hb
   refine hK.out _ _ ⟨cz_ BK210 0, cz_ BK210 1, cz_ BK210 2, cz_ BK210 3, cz_ BK211 0, cz_ BK211 1, cz_ BK211 2, (clTr HB.out hw212_0 :), (clTr HB.out hw212_1 :), (clTr HB.out hw212_2 :), (clTr HB.out hw212_3 :)⟩ (fun hHeld => ?_)
   clear hK K
   refine nm_ (some 24) ?_
   refine done_ (done_of HT_.out (by kernel_rfl)) ?_
   try go_wp2
   go_roundg k1
   case measure => have := HK1.out; omega
   case rel => exact ⟨(wrap64 (x8_1 + 1)), en_, H', ⟨by have := HK1.out; omega⟩, bl_ BK210, bl_ BK211, bw_ HB⟩
  simp only [Option.some.injEq, Prod.mk.injEq] at H
  obtain ⟨rfl, rfl⟩ := H
  have hnb19 := NB210_211.out
  have hnc19 := NB211_210.out
  obtain ⟨hcz20_0, hcz20_1, hcz20_2, hcz20_3, hfz20_0, hfz20_1, hfz20_2, hfz20_3⟩ := ch4_ BK210
  go_wp2
  go_ret2
  exact ⟨es_, (bw_ HB).out⟩
end Go.Proofs.Ytdfcoebadjhjlaa.QH
