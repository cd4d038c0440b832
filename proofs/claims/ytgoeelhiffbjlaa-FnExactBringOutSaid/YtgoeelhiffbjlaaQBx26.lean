import Derived.Test.YtgoeelhiffbjlaaQBx23
namespace Go.Proofs.Ytgoeelhiffbjlaa.QB
set_option maxHeartbeats 8000000
set_option maxRecDepth 100000
open Go.RowKit YtgoeelhiffbjlaaW.PrintWords YtgoeelhiffbjlaaW.PrintLast YtgoeelhiffbjlaaW.PrintMore
attribute [local go_sem] isSome_setCell max2_int min2_int max_two min_two max_three min_three max_four min_four
set_option linter.unusedVariables false
set_option linter.unusedSimpArgs false
def spec_l09Ready.f (k : Nat) (a0 : Int) (l1 : List (S46)) (l2 : List (S150)) : Option (Int) := (spec_l09Free.f k a0 l1 l2).bind fun bt182 => (if bt182.2 = 0 then (if bt182.1 = true then (some bt182.2) else (some 5)) else (some bt182.2))
theorem spec_l09Ready.calls (k : Nat) (a0 : Int) (A1 : Option Addr) (c1 : Nat) (l1 : List (S46)) (A2 : Option Addr) (c2 : Nat) (l2 : List (S150)) (r : Int) (w : World) (hr1 : Kd.C k46 w A1 l1.length l1) (hc1 : l1.length ≤ c1) (hr2 : Kd.C k150 w A2 l2.length l2) (hc2 : l2.length ≤ c2) (h : spec_l09Ready.f k a0 l1 l2 = some r) :
  Calls Try.prog 134 #[.int .i64 a0, .slice A1 l1.length c1, .slice A2 l2.length c2] w fun e w' => e = .returned (.int .i64 r) ∧ Below w.heap.size w w' := by
 have HR1 := Aside0.mk hr1
 have HC1 := Aside0.mk hc1
 clear hr1 hc1
 have HR2 := Aside0.mk hr2
 have HC2 := Aside0.mk hc2
 clear hr2 hc2
 have HB := Aside0.mk (Below.refl w.heap.size w)
 unfold spec_l09Ready.f at h
 have H := h
 clear h
 replace H := oc_ H
 obtain ⟨⟨t182, t183⟩, A4, H⟩ := H
 replace H := ie_ H
 rcases H with ⟨c5b0, c5b1, H⟩ | ⟨c5, c5b0, c5b1, H⟩
 ·replace H := ib_ H
  rcases H with ⟨rfl, H⟩ | ⟨rfl, H⟩
  ·obtain rfl := si_ H
   go_enter Try.func134, Try.ntmps134
   go_wp2_with (first | ((refine gc_ 172 ?_); refine ge_ 13 Try.func172 #[.int .i64 a0, .slice A1 l1.length c1, .slice A2 l2.length c2] ?_; (with_reducible refine (spec_l09Free.calls k a0 _ _ l1 _ _ l2 true t183 _ ?side1 ?side2 ?side3 ?side4 A4.out).mono ?_); (case side1 => exact ca_ HR1.out); (case side2 => exact HC1.out); (case side3 => exact ca_ HR2.out); (case side4 => exact HC2.out); rintro e w7 ⟨rfl, hb⟩; refine ⟨_, rfl, ?_⟩; replace HB := bt_ HB hb; (try clear hb)))
   go_ret
   exact ⟨es_, (bw_ HB).out⟩
  obtain rfl := si_ H
  go_enter Try.func134, Try.ntmps134
  go_wp2_with (first | ((refine gc_ 172 ?_); refine ge_ 13 Try.func172 #[.int .i64 a0, .slice A1 l1.length c1, .slice A2 l2.length c2] ?_; (with_reducible refine (spec_l09Free.calls k a0 _ _ l1 _ _ l2 false t183 _ ?side1 ?side2 ?side3 ?side4 A4.out).mono ?_); (case side1 => exact ca_ HR1.out); (case side2 => exact HC1.out); (case side3 => exact ca_ HR2.out); (case side4 => exact HC2.out); rintro e w8 ⟨rfl, hb⟩; refine ⟨_, rfl, ?_⟩; replace HB := bt_ HB hb; (try clear hb)))
  go_ret
  exact ⟨es_, (bw_ HB).out⟩
 obtain rfl := si_ H
 go_enter Try.func134, Try.ntmps134
 go_wp2_with (first | ((refine gc_ 172 ?_); refine ge_ 13 Try.func172 #[.int .i64 a0, .slice A1 l1.length c1, .slice A2 l2.length c2] ?_; (with_reducible refine (spec_l09Free.calls k a0 _ _ l1 _ _ l2 t182 t183 _ ?side1 ?side2 ?side3 ?side4 A4.out).mono ?_); (case side1 => exact ca_ HR1.out); (case side2 => exact HC1.out); (case side3 => exact ca_ HR2.out); (case side4 => exact HC2.out); rintro e w9 ⟨rfl, hb⟩; refine ⟨_, rfl, ?_⟩; replace HB := bt_ HB hb; (try clear hb)))
 go_ret
 exact ⟨es_, (bw_ HB).out⟩
def spec_l02Meet.f (k : Nat) (a0 a1_0 a1_1 a1_2 a2_0 a2_1 : Int) : Option (Int) := (spec_l01Power.f k a0 a1_2).bind fun t186 => (if (wrap64 ((wrap64 (a2_0 * t186)) - (wrap64 (a1_1 * a2_1)))) = 0 then (some a1_0) else ((spec_l01Val.f k a0 (wrap64 ((wrap64 (a2_0 * t186)) - (wrap64 (a1_1 * a2_1))))).bind fun t187 => ((spec_l01Val.f k a0 a2_1).bind fun t188 => (some (mn a1_0 (wrap64 ((wrap64 (t187 - t188)) - a1_2)))))))
theorem spec_l02Meet.calls (k : Nat) (a0 a1_0 a1_1 a1_2 a2_0 a2_1 r : Int) (w : World) (h : spec_l02Meet.f k a0 a1_0 a1_1 a1_2 a2_0 a2_1 = some r) :
  Calls Try.prog 173 #[.int .i64 a0, .agg #[.int .i64 a1_0, .int .i64 a1_1, .int .i64 a1_2], .agg #[.int .i64 a2_0, .int .i64 a2_1]] w fun e w' => e = .returned (.int .i64 r) ∧ Below w.heap.size w w' := by
 have hu25 := Try.underlying25
 have hu74 := Try.underlying74
 have HB := Aside0.mk (Below.refl w.heap.size w)
 unfold spec_l02Meet.f at h
 have H := h
 clear h
 replace H := oc_ H
 obtain ⟨t186, A4, H⟩ := H
 replace H := ie_ H
 rcases H with ⟨c5b0, c5b1, H⟩ | ⟨c5, c5b0, c5b1, H⟩
 ·obtain rfl := si_ H
  go_enter Try.func173, Try.ntmps173
  go_wp2_with (first | ((refine gd_ 4 ?_); refine by_ 4 #[.int .i64 a1_0, .int .i64 a1_1, .int .i64 a1_2] 25 HB ?_; intro gb184 hg w6 BK184 hb GW184 HB_; replace HB := HB_; clear hb hg) | ((refine gd_ 5 ?_); refine by_ 5 #[.int .i64 a2_0, .int .i64 a2_1] 74 HB ?_; intro gb185 hg w7 BK185 hb GW185 HB_; have NB184_185 := bm_ BK184 hg; have NB185_184 := bn_ BK184 hg; replace BK184 := bb_ BK184 hb; replace HB := HB_; clear hb hg; have hnb8 := NB184_185.out; have hnc8 := NB185_184.out; obtain ⟨hcz9_0, hcz9_1, hcz9_2, hfz9_0, hfz9_1, hfz9_2⟩ := ch3_ BK184) | (go_at_call 169; (with_reducible refine (spec_l01Power.calls k a0 a1_2 t186 _ A4.out).mono ?_); rintro e w' ⟨rfl, ⟨nd, rfl⟩⟩; (try exact dd_); obtain ⟨hcz10_0, hcz10_1, hfz10_0, hfz10_1⟩ := ch2_ BK185))
  repeat (go_quiet (first | ((refine gd_ 4 ?_); refine by_ 4 #[.int .i64 a1_0, .int .i64 a1_1, .int .i64 a1_2] 25 HB ?_; intro gb184 hg w6 BK184 hb GW184 HB_; replace HB := HB_; clear hb hg) | ((refine gd_ 5 ?_); refine by_ 5 #[.int .i64 a2_0, .int .i64 a2_1] 74 HB ?_; intro gb185 hg w7 BK185 hb GW185 HB_; have NB184_185 := bm_ BK184 hg; have NB185_184 := bn_ BK184 hg; replace BK184 := bb_ BK184 hb; replace HB := HB_; clear hb hg; have hnb8 := NB184_185.out; have hnc8 := NB185_184.out; obtain ⟨hcz9_0, hcz9_1, hcz9_2, hfz9_0, hfz9_1, hfz9_2⟩ := ch3_ BK184) | (go_at_call 169; (with_reducible refine (spec_l01Power.calls k a0 a1_2 t186 _ A4.out).mono ?_); rintro e w' ⟨rfl, ⟨nd, rfl⟩⟩; (try exact dd_); obtain ⟨hcz10_0, hcz10_1, hfz10_0, hfz10_1⟩ := ch2_ BK185)); try go_wp2_with (first | ((refine gd_ 4 ?_); refine by_ 4 #[.int .i64 a1_0, .int .i64 a1_1, .int .i64 a1_2] 25 HB ?_; intro gb184 hg w6 BK184 hb GW184 HB_; replace HB := HB_; clear hb hg) | ((refine gd_ 5 ?_); refine by_ 5 #[.int .i64 a2_0, .int .i64 a2_1] 74 HB ?_; intro gb185 hg w7 BK185 hb GW185 HB_; have NB184_185 := bm_ BK184 hg; have NB185_184 := bn_ BK184 hg; replace BK184 := bb_ BK184 hb; replace HB := HB_; clear hb hg; have hnb8 := NB184_185.out; have hnc8 := NB185_184.out; obtain ⟨hcz9_0, hcz9_1, hcz9_2, hfz9_0, hfz9_1, hfz9_2⟩ := ch3_ BK184) | (go_at_call 169; (with_reducible refine (spec_l01Power.calls k a0 a1_2 t186 _ A4.out).mono ?_); rintro e w' ⟨rfl, ⟨nd, rfl⟩⟩; (try exact dd_); obtain ⟨hcz10_0, hcz10_1, hfz10_0, hfz10_1⟩ := ch2_ BK185)))
  go_ret
  exact ⟨es_, (bw_ HB).out⟩
 replace H := oc_ H
 obtain ⟨t187, A11, H⟩ := H
 replace H := oc_ H
 obtain ⟨t188, A12, H⟩ := H
 obtain ⟨ji13, hji13⟩ : ∃ j_ : Int, (mn a1_0 (wrap64 ((wrap64 (t187 - t188)) - a1_2))) = j_ := ⟨_, rfl⟩
 replace H : (some ji13) = some r := by first | (rw [hji13] at H; exact H) | (simp only [hji13] at H ⊢; exact H)
 (try rw [hji13] at A4)
 (try rw [hji13] at A11)
 (try rw [hji13] at A12)
 have hji13_ : (if (wrap64 ((wrap64 (t187 - t188)) - a1_2)) < a1_0 then (wrap64 ((wrap64 (t187 - t188)) - a1_2)) else a1_0) = ji13 := hji13
 obtain rfl := si_ H
 go_enter Try.func173, Try.ntmps173
 go_wp2_with (first | ((refine gd_ 4 ?_); refine by_ 4 #[.int .i64 a1_0, .int .i64 a1_1, .int .i64 a1_2] 25 HB ?_; intro gb184 hg w14 BK184 hb GW184 HB_; replace HB := HB_; clear hb hg) | ((refine gd_ 5 ?_); refine by_ 5 #[.int .i64 a2_0, .int .i64 a2_1] 74 HB ?_; intro gb185 hg w15 BK185 hb GW185 HB_; have NB184_185 := bm_ BK184 hg; have NB185_184 := bn_ BK184 hg; replace BK184 := bb_ BK184 hb; replace HB := HB_; clear hb hg; have hnb16 := NB184_185.out; have hnc16 := NB185_184.out; obtain ⟨hcz17_0, hcz17_1, hcz17_2, hfz17_0, hfz17_1, hfz17_2⟩ := ch3_ BK184) | (go_at_call 169; (with_reducible refine (spec_l01Power.calls k a0 a1_2 t186 _ A4.out).mono ?_); rintro e w' ⟨rfl, ⟨nd, rfl⟩⟩; (try exact dd_); obtain ⟨hcz18_0, hcz18_1, hfz18_0, hfz18_1⟩ := ch2_ BK185) | (go_at_call 193; (with_reducible refine (spec_l01Val.calls k a0 (wrap64 ((wrap64 (a2_0 * t186)) - (wrap64 (a1_1 * a2_1)))) t187 _ A11.out).mono ?_); rintro e w' ⟨rfl, ⟨nd, rfl⟩⟩; (try exact dd_)) | (go_at_call 193; (with_reducible refine (spec_l01Val.calls k a0 a2_1 t188 _ A12.out).mono ?_); rintro e w' ⟨rfl, ⟨nd, rfl⟩⟩; (try exact dd_)))
 repeat (go_quiet (first | ((refine gd_ 4 ?_); refine by_ 4 #[.int .i64 a1_0, .int .i64 a1_1, .int .i64 a1_2] 25 HB ?_; intro gb184 hg w14 BK184 hb GW184 HB_; replace HB := HB_; clear hb hg) | ((refine gd_ 5 ?_); refine by_ 5 #[.int .i64 a2_0, .int .i64 a2_1] 74 HB ?_; intro gb185 hg w15 BK185 hb GW185 HB_; have NB184_185 := bm_ BK184 hg; have NB185_184 := bn_ BK184 hg; replace BK184 := bb_ BK184 hb; replace HB := HB_; clear hb hg; have hnb16 := NB184_185.out; have hnc16 := NB185_184.out; obtain ⟨hcz17_0, hcz17_1, hcz17_2, hfz17_0, hfz17_1, hfz17_2⟩ := ch3_ BK184) | (go_at_call 169; (with_reducible refine (spec_l01Power.calls k a0 a1_2 t186 _ A4.out).mono ?_); rintro e w' ⟨rfl, ⟨nd, rfl⟩⟩; (try exact dd_); obtain ⟨hcz18_0, hcz18_1, hfz18_0, hfz18_1⟩ := ch2_ BK185) | (go_at_call 193; (with_reducible refine (spec_l01Val.calls k a0 (wrap64 ((wrap64 (a2_0 * t186)) - (wrap64 (a1_1 * a2_1)))) t187 _ A11.out).mono ?_); rintro e w' ⟨rfl, ⟨nd, rfl⟩⟩; (try exact dd_)) | (go_at_call 193; (with_reducible refine (spec_l01Val.calls k a0 a2_1 t188 _ A12.out).mono ?_); rintro e w' ⟨rfl, ⟨nd, rfl⟩⟩; (try exact dd_))); try go_wp2_with (first | ((refine gd_ 4 ?_); refine by_ 4 #[.int .i64 a1_0, .int .i64 a1_1, .int .i64 a1_2] 25 HB ?_; intro gb184 hg w14 BK184 hb GW184 HB_; replace HB := HB_; clear hb hg) | ((refine gd_ 5 ?_); refine by_ 5 #[.int .i64 a2_0, .int .i64 a2_1] 74 HB ?_; intro gb185 hg w15 BK185 hb GW185 HB_; have NB184_185 := bm_ BK184 hg; have NB185_184 := bn_ BK184 hg; replace BK184 := bb_ BK184 hb; replace HB := HB_; clear hb hg; have hnb16 := NB184_185.out; have hnc16 := NB185_184.out; obtain ⟨hcz17_0, hcz17_1, hcz17_2, hfz17_0, hfz17_1, hfz17_2⟩ := ch3_ BK184) | (go_at_call 169; (with_reducible refine (spec_l01Power.calls k a0 a1_2 t186 _ A4.out).mono ?_); rintro e w' ⟨rfl, ⟨nd, rfl⟩⟩; (try exact dd_); obtain ⟨hcz18_0, hcz18_1, hfz18_0, hfz18_1⟩ := ch2_ BK185) | (go_at_call 193; (with_reducible refine (spec_l01Val.calls k a0 (wrap64 ((wrap64 (a2_0 * t186)) - (wrap64 (a1_1 * a2_1)))) t187 _ A11.out).mono ?_); rintro e w' ⟨rfl, ⟨nd, rfl⟩⟩; (try exact dd_)) | (go_at_call 193; (with_reducible refine (spec_l01Val.calls k a0 a2_1 t188 _ A12.out).mono ?_); rintro e w' ⟨rfl, ⟨nd, rfl⟩⟩; (try exact dd_))))
 go_ret
 exact ⟨by first | rfl | (simp [errW_none, errW_some] <;> rfl) | (simp only [← hji13]; first | rfl | (simp [errW_none, errW_some] <;> rfl)) | (simp [*, errW_none, errW_some] <;> rfl), (bw_ HB).out⟩
def spec_l09Has.f (k : Nat) (a0 a1_0 a1_1 a1_2 : Int) (a1_3 : Bool) (a2_0 a2_1 : Int) : Option (Bool) := if a2_1 = 0 then (some a1_3) else ((spec_l02Meet.f k a0 a1_0 a1_1 a1_2 a2_0 a2_1).bind fun t191 => (some ((t191 == a1_0) != a1_3)))
def spec_l09Has.T3 : Bool × List (List Nat × List Nat) := (true, [([], []), ([], []), ([1], [1]), ([], []), ([0, 2, 3], [0, 2, 3]), ([], []), ([5], [5]), ([6], [6]), ([4, 7], [4, 7]), ([], []), ([9], [9]), ([8, 10], [8, 10]), ([11, 4, 0, 1, 2, 3, 4, 5, 6, 7, 8, 9, 10, 11], [11])])
def spec_l09Has.B3 : List Nat := [0, 0, 2, 0, 15, 0, 32, 96, 255, 0, 512, 2047, 4095]
theorem spec_l09Has.tab3 : rtab .any (opsOf Try.f135 3) = spec_l09Has.T3 := by kernel_rfl
theorem spec_l09Has.bits3 : waitsOk spec_l09Has.T3.2 spec_l09Has.B3 = true := by kernel_rfl
theorem spec_l09Has.calls (k : Nat) (a0 a1_0 a1_1 a1_2 : Int) (a1_3 : Bool) (a2_0 a2_1 : Int) (r : Bool) (w : World) (h : spec_l09Has.f k a0 a1_0 a1_1 a1_2 a1_3 a2_0 a2_1 = some r) :
  Calls Try.prog 135 #[.int .i64 a0, .agg #[.int .i64 a1_0, .int .i64 a1_1, .int .i64 a1_2, .bool a1_3], .agg #[.int .i64 a2_0, .int .i64 a2_1]] w fun e w' => e = .returned (.bool r) ∧ Below w.heap.size w w' := by
 have hu150 := Try.underlying150
 have hu74 := Try.underlying74
 have hu25 := Try.underlying25
 have HB := Aside0.mk (Below.refl w.heap.size w)
 unfold spec_l09Has.f at h
 have H := h
 clear h
 replace H := ie_ H
 rcases H with ⟨c4b0, c4b1, H⟩ | ⟨c4, c4b0, c4b1, H⟩
 ·obtain rfl := si_ H
  go_enter Try.func135, Try.ntmps135
  go_wp2_with (first | ((refine gd_ 4 ?_); refine by_ 4 #[.int .i64 a1_0, .int .i64 a1_1, .int .i64 a1_2, .bool a1_3] 150 HB ?_; intro gb189 hg w5 BK189 hb GW189 HB_; replace HB := HB_; clear hb hg) | ((refine gd_ 5 ?_); refine by_ 5 #[.int .i64 a2_0, .int .i64 a2_1] 74 HB ?_; intro gb190 hg w6 BK190 hb GW190 HB_; have NB189_190 := bm_ BK189 hg; have NB190_189 := bn_ BK189 hg; replace BK189 := bb_ BK189 hb; replace HB := HB_; clear hb hg; have hnb7 := NB190_189.out; have hnc7 := NB189_190.out; obtain ⟨hcz8_0, hcz8_1, hfz8_0, hfz8_1⟩ := ch2_ BK190; obtain ⟨hcz9_0, hcz9_1, hcz9_2, hcz9_3, hfz9_0, hfz9_1, hfz9_2, hfz9_3⟩ := ch4_ BK189))
  go_ret
  exact ⟨es_, (bw_ HB).out⟩
 replace H := oc_ H
 obtain ⟨t191, A10, H⟩ := H
 obtain rfl := si_ H
 go_enter Try.func135, Try.ntmps135
 try go_wp2_with (first | ((refine gd_ 4 ?_); refine by_ 4 #[.int .i64 a1_0, .int .i64 a1_1, .int .i64 a1_2, .bool a1_3] 150 HB ?_; intro gb189 hg w11 BK189 hb GW189 HB_; replace HB := HB_; clear hb hg) | ((refine gd_ 5 ?_); refine by_ 5 #[.int .i64 a2_0, .int .i64 a2_1] 74 HB ?_; intro gb190 hg w12 BK190 hb GW190 HB_; have NB189_190 := bm_ BK189 hg; have NB190_189 := bn_ BK189 hg; replace BK189 := bb_ BK189 hb; replace HB := HB_; clear hb hg; have hnb13 := NB190_189.out; have hnc13 := NB189_190.out; obtain ⟨hcz14_0, hcz14_1, hfz14_0, hfz14_1⟩ := ch2_ BK190))
 replace BK189 := bd_ BK189
 replace BK190 := bd_ BK190
 replace HB := be_ HB
 refine start_ (n := 13) (S := fun w' => w'.cell? ⟨gb189, 0, none⟩ = some (.int .i64 a1_0) ∧ w'.cell? ⟨gb189, 1, none⟩ = some (.int .i64 a1_1) ∧ w'.cell? ⟨gb189, 2, none⟩ = some (.int .i64 a1_2) ∧ w'.cell? ⟨gb189, 3, none⟩ = some (.bool a1_3) ∧ w'.cell? ⟨gb190, 0, none⟩ = some (.int .i64 a2_0) ∧ w'.cell? ⟨gb190, 1, none⟩ = some (.int .i64 a2_1)) (ds := []) (bv_ 13 0) (by kernel_rfl) rfl rfl ⟨cz_ BK189 0, cz_ BK189 1, cz_ BK189 2, cz_ BK189 3, cz_ BK190 0, cz_ BK190 1⟩ (fun hHeld => ?_); refine with_tabW spec_l09Has.tab3 spec_l09Has.bits3 (fun HT_ HW_ => ?_)
 generalize w12.drew = w15 at BK189 BK190 HB hHeld ⊢
 refine px_ HT_ 0 12 1 ?_
 refine px_ HT_ 1 13 3 ?_
 refine px_ HT_ 5 17 35 ?_
 refine px_ HT_ 6 18 99 ?_
 refine px_ HT_ 9 21 611 ?_
 refine ta_ HT_ HW_ 2 (some 14) (bv_ 13 615) hHeld ?_ (hy := by rintro w' ⟨s0, s1, s2, s3, s4, s5⟩; go_simp; with_reducible rfl)
 refine ta_ HT_ HW_ 3 (some 15) (bv_ 13 623) hHeld ?_ (hy := by rintro w' ⟨s0, s1, s2, s3, s4, s5⟩; go_simp; with_reducible rfl)
 refine ta_ HT_ HW_ 7 (some 19) (bv_ 13 751) hHeld ?_ (hy := by rintro w' ⟨s0, s1, s2, s3, s4, s5⟩; go_simp; with_reducible rfl)
 refine ta_ HT_ HW_ 10 (some 22) (bv_ 13 1775) hHeld ?_ (hy := by rintro w' ⟨s0, s1, s2, s3, s4, s5⟩; go_simp; with_reducible rfl)
 refine on_ HT_ 4 (some 16) (bv_ 13 1791) (fun K hK => ?_)
 refine gs_ Try.func173 #[.int .i64 a0, .agg #[.int .i64 a1_0, .int .i64 a1_1, .int .i64 a1_2], .agg #[.int .i64 a2_0, .int .i64 a2_1]] ?_
 with_reducible refine (spec_l02Meet.calls k a0 a1_0 a1_1 a1_2 a2_0 a2_1 t191 _ A10.out).mono ?_
 rintro e w16 ⟨rfl, hb⟩
 refine ⟨_, rfl, ?_⟩
 replace BK189 := bb_ BK189 hb
 replace BK190 := bb_ BK190 hb
 replace HB := bt_ HB hb
 try clear hb
 refine hK.out _ _ ⟨cz_ BK189 0, cz_ BK189 1, cz_ BK189 2, cz_ BK189 3, cz_ BK190 0, cz_ BK190 1⟩ (fun hHeld => ?_)
 clear hK K
 refine nm_ (some 16) ?_
 refine px_ HT_ 8 20 2047 ?_
 refine px_ HT_ 11 23 4095 ?_
 refine px_ HT_ 12 6 8191 ?_
 refine done_ (done_of HT_.out (by kernel_rfl)) ?_
 try go_wp2
 go_ret
 exact ⟨es_, (bw_ HB).out⟩
end Go.Proofs.Ytgoeelhiffbjlaa.QB
