import Derived.Test.YtdfcoebadjhjlaaQHx7
namespace Go.Proofs.Ytdfcoebadjhjlaa.QH
set_option maxHeartbeats 8000000
set_option maxRecDepth 100000
open Go.RowKit Go.Proofs.YtdfcoebadjhjlaaW.PrintWords Go.Proofs.YtdfcoebadjhjlaaW.PrintLast Go.Proofs.YtdfcoebadjhjlaaW.PrintMore
attribute [local go_sem] isSome_setCell max2_int min2_int max_two min_two max_three min_three max_four min_four
set_option linter.unusedVariables false
set_option linter.unusedSimpArgs false

/-! ### laws_toMeasure: function 9 -/
def laws_toMeasure.f (k : Nat) (a0_0 a0_1 a0_2 : Int) (l0_3 : List (S103)) : Option (Int × Int × Int × (List (S72))) := (laws_toBall.f a0_0 a0_1 a0_2).bind fun bt124 => ((laws_toPieceS.f k l0_3).bind fun t127 => (some (bt124.1, bt124.2.1, bt124.2.2, t127)))
theorem laws_toMeasure.calls (k : Nat) (a0_0 a0_1 a0_2 : Int) (A0_3 : Option Addr) (c0_3 : Nat) (l0_3 : List (S103)) (r1 r2 r3 : Int) (r4 : List (S72)) (w : World) (hr0_3 : Kd.C k103 w A0_3 l0_3.length l0_3) (hc0_3 : l0_3.length ≤ c0_3) (h : laws_toMeasure.f k a0_0 a0_1 a0_2 l0_3 = some (r1, r2, r3, r4)) :
  Calls Try.prog 9 #[.agg #[.int .i64 a0_0, .int .i64 a0_1, .int .i64 a0_2, .slice A0_3 l0_3.length c0_3]] w fun e w' => ∃ v3_ : Value, e = .returned (.agg #[.int .i64 r1, .int .i64 r2, .int .i64 r3, v3_]) ∧ Kd.R k72 72 w' w.heap.size (fun _ => True) v3_ r4 ∧ Below w.heap.size w w' := by
 have hu26 := Try.underlying26
 have hu34 := Try.underlying34
 have hu23 := Try.underlying23
 have hu31 := Try.underlying31
 have HR0_3 := Aside0.mk hr0_3
 have HC0_3 := Aside0.mk hc0_3
 clear hr0_3 hc0_3
 have HB := Aside0.mk (Below.refl w.heap.size w)
 unfold laws_toMeasure.f at h
 have H := h
 clear h
 replace H := oc_ H
 obtain ⟨⟨t124, t125, t126⟩, A2, H⟩ := H
 replace H := oc_ H
 obtain ⟨t127, A3, H⟩ := H
 simp only [Option.some.injEq, Prod.mk.injEq] at H
 obtain ⟨rfl, rfl, rfl, rfl⟩ := H
 go_enter Try.func9, Try.ntmps9
 go_wp2_with (first | ((refine gd_ 1 ?_); refine by_ 1 #[.int .i64 a0_0, .int .i64 a0_1, .int .i64 a0_2, .slice A0_3 l0_3.length c0_3] 26 HB ?_; intro gb121 hg w4 BK121 hb GW121 HB_; replace HB := HB_; clear hb hg) | ((refine gd_ 2 ?_); refine by_ 2 #[.int .i64 0, .int .i64 0, .int .i64 0, .slice none 0 0] 34 HB ?_; intro gb122 hg w5 BK122 hb GW122 HB_; have NB121_122 := bm_ BK121 hg; have NB122_121 := bn_ BK121 hg; replace BK121 := bb_ BK121 hb; replace HB := HB_; clear hb hg) | ((refine gd_ 3 ?_); refine by_ 3 #[.int .i64 0, .int .i64 0, .int .i64 0, .slice none 0 0] 34 HB ?_; intro gb123 hg w6 BK123 hb GW123 HB_; have NB121_123 := bm_ BK121 hg; have NB123_121 := bn_ BK121 hg; have NB122_123 := bm_ BK122 hg; have NB123_122 := bn_ BK122 hg; replace BK121 := bb_ BK121 hb; replace BK122 := bb_ BK122 hb; replace HB := HB_; clear hb hg; have hnb7 := NB121_122.out; have hnc7 := NB122_121.out; have hnb8 := NB121_123.out; have hnc8 := NB123_121.out; obtain ⟨hcz9_0, hcz9_1, hcz9_2, hcz9_3, hfz9_0, hfz9_1, hfz9_2, hfz9_3⟩ := ch4_ BK121) | ((refine gc_ 17 ?_); refine ge_ 6 Try.func17 #[.agg #[.int .i64 a0_0, .int .i64 a0_1, .int .i64 a0_2]] ?_; (with_reducible refine (laws_toBall.calls a0_0 a0_1 a0_2 t124 t125 t126 _ A2.out).mono ?_); rintro e w10 ⟨rfl, hb⟩; refine ⟨_, rfl, ?_⟩; replace BK121 := bb_ BK121 hb; replace BK122 := bb_ BK122 hb; replace BK123 := bb_ BK123 hb; replace HB := bt_ HB hb; (try clear hb); have hnb11 := NB123_122.out; have hnc11 := NB122_123.out; obtain ⟨hcz12_0, hcz12_1, hcz12_2, hcz12_3, hfz12_0, hfz12_1, hfz12_2, hfz12_3⟩ := ch4_ BK123; obtain ⟨hcz13_0, hcz13_1, hcz13_2, hcz13_3, hfz13_0, hfz13_1, hfz13_2, hfz13_3⟩ := ch4_ BK121) | ((refine gc_ 32 ?_); refine ge_ 10 Try.func32 #[.slice A0_3 l0_3.length c0_3] ?_; (with_reducible refine (laws_toPieceS.calls k _ _ l0_3 t127 _ ?side1 ?side2 A3.out).mono ?_); (case side1 => exact Kd.C_below HR0_3.out (bw_ HB).out); (case side2 => exact HC0_3.out); rintro e w14 ⟨v128, rfl, ho0, hb⟩; refine ⟨_, rfl, ?_⟩; have HO129 := Aside0.mk (Kd.R_lower ho0 (below_size (bw_ HB).out)); replace BK121 := fb_ BK121 NB121_123 hb; replace BK122 := fb_ BK122 NB122_123 hb; replace BK123 := Aside0.mk (blk_below (g := gb123) (o := .cells #[.int .i64 t124, .int .i64 t125, .int .i64 t126, .slice none 0 0] 34 (0, 0)) (bp_ BK123).out hb); replace HB := bt_ HB hb; (try clear hb); (try clear ho0); obtain ⟨Ao15, co15, eo15⟩ := Kd.R_slice HO129.out; subst eo15; obtain ⟨hcz16_0, hcz16_1, hcz16_2, hcz16_3, hfz16_0, hfz16_1, hfz16_2, hfz16_3⟩ := ch4_ BK123; obtain ⟨hcz17_0, hcz17_1, hcz17_2, hcz17_3, hfz17_0, hfz17_1, hfz17_2, hfz17_3⟩ := ch4_ BK122))
 refine bodyPost_ret (results_cell_row rfl _ _ gb122 34 #[.int .i64 t124, .int .i64 t125, .int .i64 t126, .slice Ao15 t127.length co15] (0, 0) _ rfl (bp_ BK122).out Try.underlying34 rfl (by kernel_rfl)) rfl ?_
 exact ⟨_, es_, by (with_reducible repeat (first | apply Kd.R_alloc | apply Kd.R_drewN | apply Kd.R_drew)); exact Kd.R_mono (Kd.R_far (p := ⟨gb122, 3, none⟩) (Kd.R_far (p := ⟨gb122, 2, none⟩) (Kd.R_far (p := ⟨gb122, 1, none⟩) (Kd.R_far (p := ⟨gb122, 0, none⟩) (Kd.R_far (p := ⟨gb123, 3, none⟩) (Kd.R_types (Kd.R_types HO129.out BK123.out (by decide)) BK122.out (by decide)) (fun _ hk => hk.1.2) (.slice Ao15 t127.length co15)) (fun _ hk => hk.2) (.int .i64 t124)) (fun _ hk => hk.2) (.int .i64 t125)) (fun _ hk => hk.2) (.int .i64 t126)) (fun _ hk => hk.2) (.slice Ao15 t127.length co15)) (fun _ hk => trivial), (bw_ HB).out⟩
/-! ### laws_eqBall: function 36 -/
def laws_eqBall.f (a0_0 a0_1 a0_2 a1_0 a1_1 a1_2 : Int) : Option (Bool) := if a0_0 = a1_0 then (if a0_1 = a1_1 then (if a0_2 = a1_2 then (some true) else (some false)) else (some false)) else (some false)
theorem laws_eqBall.calls (a0_0 a0_1 a0_2 a1_0 a1_1 a1_2 : Int) (r : Bool) (w : World) (h : laws_eqBall.f a0_0 a0_1 a0_2 a1_0 a1_1 a1_2 = some r) :
  Calls Try.prog 36 #[.agg #[.int .i64 a0_0, .int .i64 a0_1, .int .i64 a0_2], .agg #[.int .i64 a1_0, .int .i64 a1_1, .int .i64 a1_2]] w fun e w' => e = .returned (.bool r) ∧ Below w.heap.size w w' := by
 have hu31 := Try.underlying31
 have HB := Aside0.mk (Below.refl w.heap.size w)
 unfold laws_eqBall.f at h
 have H := h
 clear h
 replace H := ie_ H
 rcases H with ⟨c3b0, c3b1, H⟩ | ⟨c3, c3b0, c3b1, H⟩
 ·replace H := ie_ H
  rcases H with ⟨c4b0, c4b1, H⟩ | ⟨c4, c4b0, c4b1, H⟩
  ·replace H := ie_ H
   rcases H with ⟨c5b0, c5b1, H⟩ | ⟨c5, c5b0, c5b1, H⟩
   ·obtain rfl := si_ H
    go_enter Try.func36, Try.ntmps36
    go_wp2_with (first | ((refine gd_ 2 ?_); refine by_ 2 #[.int .i64 a0_0, .int .i64 a0_1, .int .i64 a0_2] 31 HB ?_; intro gb130 hg w6 BK130 hb GW130 HB_; replace HB := HB_; clear hb hg) | ((refine gd_ 3 ?_); refine by_ 3 #[.int .i64 a1_0, .int .i64 a1_1, .int .i64 a1_2] 31 HB ?_; intro gb131 hg w7 BK131 hb GW131 HB_; have NB130_131 := bm_ BK130 hg; have NB131_130 := bn_ BK130 hg; replace BK130 := bb_ BK130 hb; replace HB := HB_; clear hb hg; have hnb8 := NB130_131.out; have hnc8 := NB131_130.out; obtain ⟨hcz9_0, hcz9_1, hcz9_2, hfz9_0, hfz9_1, hfz9_2⟩ := ch3_ BK130; obtain ⟨hcz10_0, hcz10_1, hcz10_2, hfz10_0, hfz10_1, hfz10_2⟩ := ch3_ BK131))
    go_ret
    exact ⟨es_, (bw_ HB).out⟩
   obtain rfl := si_ H
   go_enter Try.func36, Try.ntmps36
   go_wp2_with (first | ((refine gd_ 2 ?_); refine by_ 2 #[.int .i64 a0_0, .int .i64 a0_1, .int .i64 a0_2] 31 HB ?_; intro gb130 hg w11 BK130 hb GW130 HB_; replace HB := HB_; clear hb hg) | ((refine gd_ 3 ?_); refine by_ 3 #[.int .i64 a1_0, .int .i64 a1_1, .int .i64 a1_2] 31 HB ?_; intro gb131 hg w12 BK131 hb GW131 HB_; have NB130_131 := bm_ BK130 hg; have NB131_130 := bn_ BK130 hg; replace BK130 := bb_ BK130 hb; replace HB := HB_; clear hb hg; have hnb13 := NB130_131.out; have hnc13 := NB131_130.out; obtain ⟨hcz14_0, hcz14_1, hcz14_2, hfz14_0, hfz14_1, hfz14_2⟩ := ch3_ BK130; obtain ⟨hcz15_0, hcz15_1, hcz15_2, hfz15_0, hfz15_1, hfz15_2⟩ := ch3_ BK131))
   go_ret
   exact ⟨es_, (bw_ HB).out⟩
  obtain rfl := si_ H
  go_enter Try.func36, Try.ntmps36
  go_wp2_with (first | ((refine gd_ 2 ?_); refine by_ 2 #[.int .i64 a0_0, .int .i64 a0_1, .int .i64 a0_2] 31 HB ?_; intro gb130 hg w16 BK130 hb GW130 HB_; replace HB := HB_; clear hb hg) | ((refine gd_ 3 ?_); refine by_ 3 #[.int .i64 a1_0, .int .i64 a1_1, .int .i64 a1_2] 31 HB ?_; intro gb131 hg w17 BK131 hb GW131 HB_; have NB130_131 := bm_ BK130 hg; have NB131_130 := bn_ BK130 hg; replace BK130 := bb_ BK130 hb; replace HB := HB_; clear hb hg; have hnb18 := NB130_131.out; have hnc18 := NB131_130.out; obtain ⟨hcz19_0, hcz19_1, hcz19_2, hfz19_0, hfz19_1, hfz19_2⟩ := ch3_ BK130; obtain ⟨hcz20_0, hcz20_1, hcz20_2, hfz20_0, hfz20_1, hfz20_2⟩ := ch3_ BK131))
  go_ret
  exact ⟨es_, (bw_ HB).out⟩
 obtain rfl := si_ H
 go_enter Try.func36, Try.ntmps36
 go_wp2_with (first | ((refine gd_ 2 ?_); refine by_ 2 #[.int .i64 a0_0, .int .i64 a0_1, .int .i64 a0_2] 31 HB ?_; intro gb130 hg w21 BK130 hb GW130 HB_; replace HB := HB_; clear hb hg) | ((refine gd_ 3 ?_); refine by_ 3 #[.int .i64 a1_0, .int .i64 a1_1, .int .i64 a1_2] 31 HB ?_; intro gb131 hg w22 BK131 hb GW131 HB_; have NB130_131 := bm_ BK130 hg; have NB131_130 := bn_ BK130 hg; replace BK130 := bb_ BK130 hb; replace HB := HB_; clear hb hg; have hnb23 := NB130_131.out; have hnc23 := NB131_130.out; obtain ⟨hcz24_0, hcz24_1, hcz24_2, hfz24_0, hfz24_1, hfz24_2⟩ := ch3_ BK130; obtain ⟨hcz25_0, hcz25_1, hcz25_2, hfz25_0, hfz25_1, hfz25_2⟩ := ch3_ BK131))
 go_ret
 exact ⟨es_, (bw_ HB).out⟩
/-! ### laws_eqPiece: function 74 -/
def laws_eqPiece.f (a0_0 a0_1 a0_2 a0_3 a1_0 a1_1 a1_2 a1_3 : Int) : Option (Bool) := (laws_eqBall.f a0_0 a0_1 a0_2 a1_0 a1_1 a1_2).bind fun t134 => (if t134 = true then (if a0_3 = a1_3 then (some true) else (some false)) else (some false))
theorem laws_eqPiece.calls (a0_0 a0_1 a0_2 a0_3 a1_0 a1_1 a1_2 a1_3 : Int) (r : Bool) (w : World) (h : laws_eqPiece.f a0_0 a0_1 a0_2 a0_3 a1_0 a1_1 a1_2 a1_3 = some r) :
  Calls Try.prog 74 #[.agg #[.int .i64 a0_0, .int .i64 a0_1, .int .i64 a0_2, .int .i64 a0_3], .agg #[.int .i64 a1_0, .int .i64 a1_1, .int .i64 a1_2, .int .i64 a1_3]] w fun e w' => e = .returned (.bool r) ∧ Below w.heap.size w w' := by
 have hu72 := Try.underlying72
 have hu31 := Try.underlying31
 have HB := Aside0.mk (Below.refl w.heap.size w)
 unfold laws_eqPiece.f at h
 have H := h
 clear h
 replace H := oc_ H
 obtain ⟨t134, A3, H⟩ := H
 replace H := ib_ H
 rcases H with ⟨rfl, H⟩ | ⟨rfl, H⟩
 ·replace H := ie_ H
  rcases H with ⟨c5b0, c5b1, H⟩ | ⟨c5, c5b0, c5b1, H⟩
  ·obtain rfl := si_ H
   go_enter Try.func74, Try.ntmps74
   go_wp2_with (first | ((refine gd_ 2 ?_); refine by_ 2 #[.int .i64 a0_0, .int .i64 a0_1, .int .i64 a0_2, .int .i64 a0_3] 72 HB ?_; intro gb132 hg w6 BK132 hb GW132 HB_; replace HB := HB_; clear hb hg) | ((refine gd_ 3 ?_); refine by_ 3 #[.int .i64 a1_0, .int .i64 a1_1, .int .i64 a1_2, .int .i64 a1_3] 72 HB ?_; intro gb133 hg w7 BK133 hb GW133 HB_; have NB132_133 := bm_ BK132 hg; have NB133_132 := bn_ BK132 hg; replace BK132 := bb_ BK132 hb; replace HB := HB_; clear hb hg; have hnb8 := NB132_133.out; have hnc8 := NB133_132.out; obtain ⟨hcz9_0, hcz9_1, hcz9_2, hcz9_3, hfz9_0, hfz9_1, hfz9_2, hfz9_3⟩ := ch4_ BK132; obtain ⟨hcz10_0, hcz10_1, hcz10_2, hcz10_3, hfz10_0, hfz10_1, hfz10_2, hfz10_3⟩ := ch4_ BK133) | ((refine gc_ 36 ?_); refine ge_ 9 Try.func36 #[.agg #[.int .i64 a0_0, .int .i64 a0_1, .int .i64 a0_2], .agg #[.int .i64 a1_0, .int .i64 a1_1, .int .i64 a1_2]] ?_; (with_reducible refine (laws_eqBall.calls a0_0 a0_1 a0_2 a1_0 a1_1 a1_2 true _ A3.out).mono ?_); rintro e w11 ⟨rfl, hb⟩; refine ⟨_, rfl, ?_⟩; replace BK132 := bb_ BK132 hb; replace BK133 := bb_ BK133 hb; replace HB := bt_ HB hb; (try clear hb); obtain ⟨hcz12_0, hcz12_1, hcz12_2, hcz12_3, hfz12_0, hfz12_1, hfz12_2, hfz12_3⟩ := ch4_ BK132; obtain ⟨hcz13_0, hcz13_1, hcz13_2, hcz13_3, hfz13_0, hfz13_1, hfz13_2, hfz13_3⟩ := ch4_ BK133))
   go_ret
   exact ⟨es_, (bw_ HB).out⟩
  obtain rfl := si_ H
  go_enter Try.func74, Try.ntmps74
  go_wp2_with (first | ((refine gd_ 2 ?_); refine by_ 2 #[.int .i64 a0_0, .int .i64 a0_1, .int .i64 a0_2, .int .i64 a0_3] 72 HB ?_; intro gb132 hg w14 BK132 hb GW132 HB_; replace HB := HB_; clear hb hg) | ((refine gd_ 3 ?_); refine by_ 3 #[.int .i64 a1_0, .int .i64 a1_1, .int .i64 a1_2, .int .i64 a1_3] 72 HB ?_; intro gb133 hg w15 BK133 hb GW133 HB_; have NB132_133 := bm_ BK132 hg; have NB133_132 := bn_ BK132 hg; replace BK132 := bb_ BK132 hb; replace HB := HB_; clear hb hg; have hnb16 := NB132_133.out; have hnc16 := NB133_132.out; obtain ⟨hcz17_0, hcz17_1, hcz17_2, hcz17_3, hfz17_0, hfz17_1, hfz17_2, hfz17_3⟩ := ch4_ BK132; obtain ⟨hcz18_0, hcz18_1, hcz18_2, hcz18_3, hfz18_0, hfz18_1, hfz18_2, hfz18_3⟩ := ch4_ BK133) | ((refine gc_ 36 ?_); refine ge_ 9 Try.func36 #[.agg #[.int .i64 a0_0, .int .i64 a0_1, .int .i64 a0_2], .agg #[.int .i64 a1_0, .int .i64 a1_1, .int .i64 a1_2]] ?_; (with_reducible refine (laws_eqBall.calls a0_0 a0_1 a0_2 a1_0 a1_1 a1_2 true _ A3.out).mono ?_); rintro e w19 ⟨rfl, hb⟩; refine ⟨_, rfl, ?_⟩; replace BK132 := bb_ BK132 hb; replace BK133 := bb_ BK133 hb; replace HB := bt_ HB hb; (try clear hb); obtain ⟨hcz20_0, hcz20_1, hcz20_2, hcz20_3, hfz20_0, hfz20_1, hfz20_2, hfz20_3⟩ := ch4_ BK132; obtain ⟨hcz21_0, hcz21_1, hcz21_2, hcz21_3, hfz21_0, hfz21_1, hfz21_2, hfz21_3⟩ := ch4_ BK133))
  go_ret
  exact ⟨es_, (bw_ HB).out⟩
 obtain rfl := si_ H
 go_enter Try.func74, Try.ntmps74
 go_wp2_with (first | ((refine gd_ 2 ?_); refine by_ 2 #[.int .i64 a0_0, .int .i64 a0_1, .int .i64 a0_2, .int .i64 a0_3] 72 HB ?_; intro gb132 hg w22 BK132 hb GW132 HB_; replace HB := HB_; clear hb hg) | ((refine gd_ 3 ?_); refine by_ 3 #[.int .i64 a1_0, .int .i64 a1_1, .int .i64 a1_2, .int .i64 a1_3] 72 HB ?_; intro gb133 hg w23 BK133 hb GW133 HB_; have NB132_133 := bm_ BK132 hg; have NB133_132 := bn_ BK132 hg; replace BK132 := bb_ BK132 hb; replace HB := HB_; clear hb hg; have hnb24 := NB132_133.out; have hnc24 := NB133_132.out; obtain ⟨hcz25_0, hcz25_1, hcz25_2, hcz25_3, hfz25_0, hfz25_1, hfz25_2, hfz25_3⟩ := ch4_ BK132; obtain ⟨hcz26_0, hcz26_1, hcz26_2, hcz26_3, hfz26_0, hfz26_1, hfz26_2, hfz26_3⟩ := ch4_ BK133) | ((refine gc_ 36 ?_); refine ge_ 9 Try.func36 #[.agg #[.int .i64 a0_0, .int .i64 a0_1, .int .i64 a0_2], .agg #[.int .i64 a1_0, .int .i64 a1_1, .int .i64 a1_2]] ?_; (with_reducible refine (laws_eqBall.calls a0_0 a0_1 a0_2 a1_0 a1_1 a1_2 false _ A3.out).mono ?_); rintro e w27 ⟨rfl, hb⟩; refine ⟨_, rfl, ?_⟩; replace BK132 := bb_ BK132 hb; replace BK133 := bb_ BK133 hb; replace HB := bt_ HB hb; (try clear hb)))
 go_ret
 exact ⟨es_, (bw_ HB).out⟩
/-! ### laws_eqPieceS: function 37 -/
def laws_eqPieceS.l0 : Nat → List (S72) → List (S72) → Int → Option (Bool)
 | 0, _, _, _ => none
 | k + 1, x0, x1, x5 => if x5 < (x0.length : Int) then (if 0 ≤ x5 then (if x5 < (x1.length : Int) then ((laws_eqPiece.f ((rd_T72 x0 x5).f0.f0) ((rd_T72 x0 x5).f0.f1) ((rd_T72 x0 x5).f0.f2) ((rd_T72 x0 x5).f1) ((rd_T72 x1 x5).f0.f0) ((rd_T72 x1 x5).f0.f1) ((rd_T72 x1 x5).f0.f2) ((rd_T72 x1 x5).f1)).bind fun t137 => (if t137 = true then (laws_eqPieceS.l0 k x0 x1 (wrap64 (x5 + 1))) else (some false))) else (none)) else (none)) else (some true)
def laws_eqPieceS.f (k : Nat) (l0 : List (S72)) (l1 : List (S72)) : Option (Bool) := if (l0.length : Int) = (l1.length : Int) then (laws_eqPieceS.l0 k l0 l1 0) else (some false)
def laws_eqPieceS.T6 : Bool × List (List Nat × List Nat) := (true, [([], []), ([], []), ([0, 1], [0, 1]), ([2], [2]), ([], []), ([], []), ([4, 5], [4, 5]), ([6], [6]), ([3, 7], [3, 7]), ([8], [8])])
def laws_eqPieceS.B6 : List Nat := [0, 0, 3, 7, 0, 0, 48, 112, 255, 511]
theorem laws_eqPieceS.tab6 : rtab .any (opsOf Try.f37 6) = laws_eqPieceS.T6 := by kernel_rfl
theorem laws_eqPieceS.bits6 : waitsOk laws_eqPieceS.T6.2 laws_eqPieceS.B6 = true := by kernel_rfl
theorem laws_eqPieceS.calls (k : Nat) (A0 : Option Addr) (c0 : Nat) (l0 : List (S72)) (A1 : Option Addr) (c1 : Nat) (l1 : List (S72)) (r : Bool) (w : World) (hr0 : Kd.C k72 w A0 l0.length l0) (hc0 : l0.length ≤ c0) (hr1 : Kd.C k72 w A1 l1.length l1) (hc1 : l1.length ≤ c1) (h : laws_eqPieceS.f k l0 l1 = some r) :
  Calls Try.prog 37 #[.slice A0 l0.length c0, .slice A1 l1.length c1] w fun e w' => e = .returned (.bool r) ∧ Below w.heap.size w w' := by
 have hu72 := Try.underlying72
 have HR0 := Aside0.mk hr0
 have HC0 := Aside0.mk hc0
 clear hr0 hc0
 have HR1 := Aside0.mk hr1
 have HC1 := Aside0.mk hc1
 clear hr1 hc1
 have HB := Aside0.mk (Below.refl w.heap.size w)
 unfold laws_eqPieceS.f at h
 have H := h
 clear h
 by_cases c3 : (l0.length : Int) = (l1.length : Int)
 ·rw [if_pos c3] at H
  have c3b0 : ((l0.length : Int) == (l1.length : Int)) = true := beq_iff_eq.mpr c3
  have c3b1 : ((l0.length : Int) != (l1.length : Int)) = false := bne_eq_false_iff_eq.mpr c3
  have c3b2 : (l0.length == l1.length) = true := by first | simpa using c3 | (simp at c3 ⊢; omega)
  clear c3
  have H' := Aside0.mk H
  clear H
  go_enter Try.func37, Try.ntmps37
  go_wp2
  go_loopg [5] k (fun kq v5 w' => ∃ (x5_1 : Int), v5 = .int .i64 x5_1 ∧ Aside0 (laws_eqPieceS.l0 kq l0 l1 x5_1 = some r) ∧ Aside0 (kq ≤ k) ∧ Aside0 (Below w.heap.size w w'))
  case atStart => exact ⟨(0), en_, H', ⟨Nat.le_refl _⟩, bw_ HB⟩
  clear H'
  try clear c1
  try clear c3
  try clear c3b0
  try clear c3b1
  try clear c3b2
  obtain ⟨x5_1, rfl, HA, HK1, HB⟩ := hrel
  cases gk with
  | zero => exact absurd HA.out (by simp [laws_eqPieceS.l0])
  | succ k1 =>
   have H := HA.out
   clear HA
   simp only [laws_eqPieceS.l0] at H
   replace H := il_ H
   rcases H with ⟨c4b0, H⟩ | ⟨c4b0, H⟩
   ·replace H := imn_ H
    obtain ⟨c5b0, H⟩ := H
    replace H := iln_ H
    obtain ⟨c6b0, H⟩ := H
    replace H := oc_ H
    obtain ⟨t137, A7, H⟩ := H
    replace H := ib_ H
    rcases H with ⟨rfl, H⟩ | ⟨rfl, H⟩
    ·have H' := Aside0.mk H
     clear H
     try go_wp2
     replace HB := be_ HB
     have p135 : 0 ≤ (x5_1 : Int) := od_
     have q135 : x5_1 < (l0.length : Int) := od_
     obtain ⟨ad135, e135, hx135_0, hx135_1, hx135_2, hx135_3⟩ := at_T72 HR0.out x5_1 p135 q135
     have hw135_3 := hx135_3
     have hw135_2 := hx135_2
     have hw135_1 := hx135_1
     have hw135_0 := hx135_0
     cases e135
     replace hx135_0 := clTr HB.out hx135_0
     replace hx135_1 := clTr HB.out hx135_1
     replace hx135_2 := clTr HB.out hx135_2
     replace hx135_3 := clTr HB.out hx135_3
     replace p135 := eq_true p135
     replace q135 := eq_true q135
     have p136 : 0 ≤ (x5_1 : Int) := od_
     have q136 : x5_1 < (l1.length : Int) := od_
     obtain ⟨ad136, e136, hx136_0, hx136_1, hx136_2, hx136_3⟩ := at_T72 HR1.out x5_1 p136 q136
     have hw136_3 := hx136_3
     have hw136_2 := hx136_2
     have hw136_1 := hx136_1
     have hw136_0 := hx136_0
     cases e136
     replace hx136_0 := clTr HB.out hx136_0
     replace hx136_1 := clTr HB.out hx136_1
     replace hx136_2 := clTr HB.out hx136_2
     replace hx136_3 := clTr HB.out hx136_3
     replace p136 := eq_true p136
     replace q136 := eq_true q136
     refine start_ (n := 10) (S := fun w' => w'.cell? (ad135.add ((x5_1).toNat * 4)) = some (.int .i64 ((rd_T72 l0 x5_1).f0.f0)) ∧ w'.cell? ⟨(ad135.add ((x5_1).toNat * 4)).block, (ad135.add ((x5_1).toNat * 4)).off + 1, none⟩ = some (.int .i64 ((rd_T72 l0 x5_1).f0.f1)) ∧ w'.cell? ⟨(ad135.add ((x5_1).toNat * 4)).block, (ad135.add ((x5_1).toNat * 4)).off + 2, none⟩ = some (.int .i64 ((rd_T72 l0 x5_1).f0.f2)) ∧ w'.cell? ⟨(ad135.add ((x5_1).toNat * 4)).block, (ad135.add ((x5_1).toNat * 4)).off + 3, none⟩ = some (.int .i64 ((rd_T72 l0 x5_1).f1)) ∧ w'.cell? (ad136.add ((x5_1).toNat * 4)) = some (.int .i64 ((rd_T72 l1 x5_1).f0.f0)) ∧ w'.cell? ⟨(ad136.add ((x5_1).toNat * 4)).block, (ad136.add ((x5_1).toNat * 4)).off + 1, none⟩ = some (.int .i64 ((rd_T72 l1 x5_1).f0.f1)) ∧ w'.cell? ⟨(ad136.add ((x5_1).toNat * 4)).block, (ad136.add ((x5_1).toNat * 4)).off + 2, none⟩ = some (.int .i64 ((rd_T72 l1 x5_1).f0.f2)) ∧ w'.cell? ⟨(ad136.add ((x5_1).toNat * 4)).block, (ad136.add ((x5_1).toNat * 4)).off + 3, none⟩ = some (.int .i64 ((rd_T72 l1 x5_1).f1))) (ds := []) (bv_ 10 0) (by kernel_rfl) rfl rfl ⟨(clTr HB.out hw135_0 :), (clTr HB.out hw135_1 :), (clTr HB.out hw135_2 :), (clTr HB.out hw135_3 :), (clTr HB.out hw136_0 :), (clTr HB.out hw136_1 :), (clTr HB.out hw136_2 :), (clTr HB.out hw136_3 :)⟩ (fun hHeld => ?_); refine with_tabW laws_eqPieceS.tab6 laws_eqPieceS.bits6 (fun HT_ HW_ => ?_)
     generalize wr.drew = w9 at HB hx135_0 hx135_1 hx135_2 hx135_3 hx136_0 hx136_1 hx136_2 hx136_3 hHeld ⊢
     refine px_ HT_ 0 17 1 ?_
     refine px_ HT_ 1 18 3 ?_
     refine px_ HT_ 2 19 7 ?_
     refine px_ HT_ 4 21 23 ?_
     refine px_ HT_ 5 22 55 ?_
     refine px_ HT_ 6 23 119 ?_
     refine ta_ HT_ HW_ 3 (some 20) (bv_ 10 127) hHeld ?_ (hy := by rintro w' ⟨s0, s1, s2, s3, s4, s5, s6, s7⟩; go_simp; with_reducible rfl)
     refine ta_ HT_ HW_ 7 (some 24) (bv_ 10 255) hHeld ?_ (hy := by rintro w' ⟨s0, s1, s2, s3, s4, s5, s6, s7⟩; go_simp; with_reducible rfl)
     refine on_ HT_ 8 (some 25) (bv_ 10 511) (fun K hK => ?_)
     refine gs_ Try.func74 #[.agg #[.int .i64 ((rd_T72 l0 x5_1).f0.f0), .int .i64 ((rd_T72 l0 x5_1).f0.f1), .int .i64 ((rd_T72 l0 x5_1).f0.f2), .int .i64 ((rd_T72 l0 x5_1).f1)], .agg #[.int .i64 ((rd_T72 l1 x5_1).f0.f0), .int .i64 ((rd_T72 l1 x5_1).f0.f1), .int .i64 ((rd_T72 l1 x5_1).f0.f2), .int .i64 ((rd_T72 l1 x5_1).f1)]] ?_
     with_reducible refine (laws_eqPiece.calls ((rd_T72 l0 x5_1).f0.f0) ((rd_T72 l0 x5_1).f0.f1) ((rd_T72 l0 x5_1).f0.f2) ((rd_T72 l0 x5_1).f1) ((rd_T72 l1 x5_1).f0.f0) ((rd_T72 l1 x5_1).f0.f1) ((rd_T72 l1 x5_1).f0.f2) ((rd_T72 l1 x5_1).f1) true _ A7.out).mono ?_
     rintro e w10 ⟨rfl, hb⟩
     refine ⟨_, rfl, ?_⟩
     replace HB := bt_ HB hb
     try clear hb
     refine hK.out _ _ ⟨(clTr HB.out hw135_0 :), (clTr HB.out hw135_1 :), (clTr HB.out hw135_2 :), (clTr HB.out hw135_3 :), (clTr HB.out hw136_0 :), (clTr HB.out hw136_1 :), (clTr HB.out hw136_2 :), (clTr HB.out hw136_3 :)⟩ (fun hHeld => ?_)
     clear hK K
     refine nm_ (some 25) ?_
     refine px_ HT_ 9 26 1023 ?_
     refine done_ (done_of HT_.out (by kernel_rfl)) ?_
     try go_wp2
     go_roundg k1
     case measure => have := HK1.out; omega
     case rel => exact ⟨(wrap64 (x5_1 + 1)), en_, H', ⟨by have := HK1.out; omega⟩, bw_ HB⟩
    obtain rfl := si_ H
    try go_wp2
    replace HB := be_ HB
    have p135 : 0 ≤ (x5_1 : Int) := od_
    have q135 : x5_1 < (l0.length : Int) := od_
    obtain ⟨ad135, e135, hx135_0, hx135_1, hx135_2, hx135_3⟩ := at_T72 HR0.out x5_1 p135 q135
    have hw135_3 := hx135_3
    have hw135_2 := hx135_2
    have hw135_1 := hx135_1
    have hw135_0 := hx135_0
    cases e135
    replace hx135_0 := clTr HB.out hx135_0
    replace hx135_1 := clTr HB.out hx135_1
    replace hx135_2 := clTr HB.out hx135_2
    replace hx135_3 := clTr HB.out hx135_3
    replace p135 := eq_true p135
    replace q135 := eq_true q135
    have p136 : 0 ≤ (x5_1 : Int) := od_
    have q136 : x5_1 < (l1.length : Int) := od_
    obtain ⟨ad136, e136, hx136_0, hx136_1, hx136_2, hx136_3⟩ := at_T72 HR1.out x5_1 p136 q136
    have hw136_3 := hx136_3
    have hw136_2 := hx136_2
    have hw136_1 := hx136_1
    have hw136_0 := hx136_0
    cases e136
    replace hx136_0 := clTr HB.out hx136_0
    replace hx136_1 := clTr HB.out hx136_1
    replace hx136_2 := clTr HB.out hx136_2
    replace hx136_3 := clTr HB.out hx136_3
    replace p136 := eq_true p136
    replace q136 := eq_true q136
    refine start_ (n := 10) (S := fun w' => w'.cell? (ad135.add ((x5_1).toNat * 4)) = some (.int .i64 ((rd_T72 l0 x5_1).f0.f0)) ∧ w'.cell? ⟨(ad135.add ((x5_1).toNat * 4)).block, (ad135.add ((x5_1).toNat * 4)).off + 1, none⟩ = some (.int .i64 ((rd_T72 l0 x5_1).f0.f1)) ∧ w'.cell? ⟨(ad135.add ((x5_1).toNat * 4)).block, (ad135.add ((x5_1).toNat * 4)).off + 2, none⟩ = some (.int .i64 ((rd_T72 l0 x5_1).f0.f2)) ∧ w'.cell? ⟨(ad135.add ((x5_1).toNat * 4)).block, (ad135.add ((x5_1).toNat * 4)).off + 3, none⟩ = some (.int .i64 ((rd_T72 l0 x5_1).f1)) ∧ w'.cell? (ad136.add ((x5_1).toNat * 4)) = some (.int .i64 ((rd_T72 l1 x5_1).f0.f0)) ∧ w'.cell? ⟨(ad136.add ((x5_1).toNat * 4)).block, (ad136.add ((x5_1).toNat * 4)).off + 1, none⟩ = some (.int .i64 ((rd_T72 l1 x5_1).f0.f1)) ∧ w'.cell? ⟨(ad136.add ((x5_1).toNat * 4)).block, (ad136.add ((x5_1).toNat * 4)).off + 2, none⟩ = some (.int .i64 ((rd_T72 l1 x5_1).f0.f2)) ∧ w'.cell? ⟨(ad136.add ((x5_1).toNat * 4)).block, (ad136.add ((x5_1).toNat * 4)).off + 3, none⟩ = some (.int .i64 ((rd_T72 l1 x5_1).f1))) (ds := []) (bv_ 10 0) (by kernel_rfl) rfl rfl ⟨(clTr HB.out hw135_0 :), (clTr HB.out hw135_1 :), (clTr HB.out hw135_2 :), (clTr HB.out hw135_3 :), (clTr HB.out hw136_0 :), (clTr HB.out hw136_1 :), (clTr HB.out hw136_2 :), (clTr HB.out hw136_3 :)⟩ (fun hHeld => ?_); refine with_tabW laws_eqPieceS.tab6 laws_eqPieceS.bits6 (fun HT_ HW_ => ?_)
    generalize wr.drew = w11 at HB hx135_0 hx135_1 hx135_2 hx135_3 hx136_0 hx136_1 hx136_2 hx136_3 hHeld ⊢
    refine px_ HT_ 0 17 1 ?_
    refine px_ HT_ 1 18 3 ?_
    refine px_ HT_ 2 19 7 ?_
    refine px_ HT_ 4 21 23 ?_
    refine px_ HT_ 5 22 55 ?_
    refine px_ HT_ 6 23 119 ?_
    refine ta_ HT_ HW_ 3 (some 20) (bv_ 10 127) hHeld ?_ (hy := by rintro w' ⟨s0, s1, s2, s3, s4, s5, s6, s7⟩; go_simp; with_reducible rfl)
    refine ta_ HT_ HW_ 7 (some 24) (bv_ 10 255) hHeld ?_ (hy := by rintro w' ⟨s0, s1, s2, s3, s4, s5, s6, s7⟩; go_simp; with_reducible rfl)
    refine on_ HT_ 8 (some 25) (bv_ 10 511) (fun K hK => ?_)
    refine gs_ Try.func74 #[.agg #[.int .i64 ((rd_T72 l0 x5_1).f0.f0), .int .i64 ((rd_T72 l0 x5_1).f0.f1), .int .i64 ((rd_T72 l0 x5_1).f0.f2), .int .i64 ((rd_T72 l0 x5_1).f1)], .agg #[.int .i64 ((rd_T72 l1 x5_1).f0.f0), .int .i64 ((rd_T72 l1 x5_1).f0.f1), .int .i64 ((rd_T72 l1 x5_1).f0.f2), .int .i64 ((rd_T72 l1 x5_1).f1)]] ?_
    with_reducible refine (laws_eqPiece.calls ((rd_T72 l0 x5_1).f0.f0) ((rd_T72 l0 x5_1).f0.f1) ((rd_T72 l0 x5_1).f0.f2) ((rd_T72 l0 x5_1).f1) ((rd_T72 l1 x5_1).f0.f0) ((rd_T72 l1 x5_1).f0.f1) ((rd_T72 l1 x5_1).f0.f2) ((rd_T72 l1 x5_1).f1) false _ A7.out).mono ?_
    rintro e w12 ⟨rfl, hb⟩
    refine ⟨_, rfl, ?_⟩
    replace HB := bt_ HB hb
    try clear hb
    refine hK.out _ _ ⟨(clTr HB.out hw135_0 :), (clTr HB.out hw135_1 :), (clTr HB.out hw135_2 :), (clTr HB.out hw135_3 :), (clTr HB.out hw136_0 :), (clTr HB.out hw136_1 :), (clTr HB.out hw136_2 :), (clTr HB.out hw136_3 :)⟩ (fun hHeld => ?_)
    clear hK K
    refine nm_ (some 25) ?_
    refine px_ HT_ 9 26 1023 ?_
    refine done_ (done_of HT_.out (by kernel_rfl)) ?_
    try go_wp2
    go_ret
    exact ⟨es_, (bw_ HB).out⟩
   obtain rfl := si_ H
   go_wp2
   go_ret
   exact ⟨es_, (bw_ HB).out⟩
 rw [if_neg c3] at H
 have c3b0 : ((l0.length : Int) == (l1.length : Int)) = false := beq_eq_false_iff_ne.mpr c3
 have c3b1 : ((l0.length : Int) != (l1.length : Int)) = true := bne_iff_ne.mpr c3
 have c3b2 : (l0.length == l1.length) = false := by first | simpa using c3 | (simp at c3 ⊢; omega)
 obtain rfl := si_ H
 go_enter Try.func37, Try.ntmps37
 go_wp2
 go_ret
 exact ⟨es_, (bw_ HB).out⟩
/-! ### laws_eqMeasure: function 12 -/
def laws_eqMeasure.f (k : Nat) (a0_0 a0_1 a0_2 : Int) (l0_3 : List (S72)) (a1_0 a1_1 a1_2 : Int) (l1_3 : List (S72)) : Option (Bool) := (laws_eqBall.f a0_0 a0_1 a0_2 a1_0 a1_1 a1_2).bind fun t140 => (if t140 = true then ((laws_eqPieceS.f k l0_3 l1_3).bind fun t141 => (if t141 = true then (some true) else (some false))) else (some false))
theorem laws_eqMeasure.calls (k : Nat) (a0_0 a0_1 a0_2 : Int) (A0_3 : Option Addr) (c0_3 : Nat) (l0_3 : List (S72)) (a1_0 a1_1 a1_2 : Int) (A1_3 : Option Addr) (c1_3 : Nat) (l1_3 : List (S72)) (r : Bool) (w : World) (hr0_3 : Kd.C k72 w A0_3 l0_3.length l0_3) (hc0_3 : l0_3.length ≤ c0_3) (hr1_3 : Kd.C k72 w A1_3 l1_3.length l1_3) (hc1_3 : l1_3.length ≤ c1_3) (h : laws_eqMeasure.f k a0_0 a0_1 a0_2 l0_3 a1_0 a1_1 a1_2 l1_3 = some r) :
  Calls Try.prog 12 #[.agg #[.int .i64 a0_0, .int .i64 a0_1, .int .i64 a0_2, .slice A0_3 l0_3.length c0_3], .agg #[.int .i64 a1_0, .int .i64 a1_1, .int .i64 a1_2, .slice A1_3 l1_3.length c1_3]] w fun e w' => e = .returned (.bool r) ∧ Below w.heap.size w w' := by
 have hu34 := Try.underlying34
 have hu31 := Try.underlying31
 have HR0_3 := Aside0.mk hr0_3
 have HC0_3 := Aside0.mk hc0_3
 clear hr0_3 hc0_3
 have HR1_3 := Aside0.mk hr1_3
 have HC1_3 := Aside0.mk hc1_3
 clear hr1_3 hc1_3
 have HB := Aside0.mk (Below.refl w.heap.size w)
 unfold laws_eqMeasure.f at h
 have H := h
 clear h
 replace H := oc_ H
 obtain ⟨t140, A3, H⟩ := H
 replace H := ib_ H
 rcases H with ⟨rfl, H⟩ | ⟨rfl, H⟩
 ·replace H := oc_ H
  obtain ⟨t141, A5, H⟩ := H
  replace H := ib_ H
  rcases H with ⟨rfl, H⟩ | ⟨rfl, H⟩
  ·obtain rfl := si_ H
   go_enter Try.func12, Try.ntmps12
   go_wp2_with (first | ((refine gd_ 2 ?_); refine by_ 2 #[.int .i64 a0_0, .int .i64 a0_1, .int .i64 a0_2, .slice A0_3 l0_3.length c0_3] 34 HB ?_; intro gb138 hg w7 BK138 hb GW138 HB_; replace HB := HB_; clear hb hg) | ((refine gd_ 3 ?_); refine by_ 3 #[.int .i64 a1_0, .int .i64 a1_1, .int .i64 a1_2, .slice A1_3 l1_3.length c1_3] 34 HB ?_; intro gb139 hg w8 BK139 hb GW139 HB_; have NB138_139 := bm_ BK138 hg; have NB139_138 := bn_ BK138 hg; replace BK138 := bb_ BK138 hb; replace HB := HB_; clear hb hg; have hnb9 := NB138_139.out; have hnc9 := NB139_138.out; obtain ⟨hcz10_0, hcz10_1, hcz10_2, hcz10_3, hfz10_0, hfz10_1, hfz10_2, hfz10_3⟩ := ch4_ BK138; obtain ⟨hcz11_0, hcz11_1, hcz11_2, hcz11_3, hfz11_0, hfz11_1, hfz11_2, hfz11_3⟩ := ch4_ BK139) | ((refine gc_ 36 ?_); refine ge_ 9 Try.func36 #[.agg #[.int .i64 a0_0, .int .i64 a0_1, .int .i64 a0_2], .agg #[.int .i64 a1_0, .int .i64 a1_1, .int .i64 a1_2]] ?_; (with_reducible refine (laws_eqBall.calls a0_0 a0_1 a0_2 a1_0 a1_1 a1_2 true _ A3.out).mono ?_); rintro e w12 ⟨rfl, hb⟩; refine ⟨_, rfl, ?_⟩; replace BK138 := bb_ BK138 hb; replace BK139 := bb_ BK139 hb; replace HB := bt_ HB hb; (try clear hb); obtain ⟨hcz13_0, hcz13_1, hcz13_2, hcz13_3, hfz13_0, hfz13_1, hfz13_2, hfz13_3⟩ := ch4_ BK138; obtain ⟨hcz14_0, hcz14_1, hcz14_2, hcz14_3, hfz14_0, hfz14_1, hfz14_2, hfz14_3⟩ := ch4_ BK139) | ((refine gc_ 37 ?_); refine ge_ 15 Try.func37 #[.slice A0_3 l0_3.length c0_3, .slice A1_3 l1_3.length c1_3] ?_; (with_reducible refine (laws_eqPieceS.calls k _ _ l0_3 _ _ l1_3 true _ ?side1 ?side2 ?side3 ?side4 A5.out).mono ?_); (case side1 => exact ca_ (Kd.C_below HR0_3.out HB.out)); (case side2 => exact HC0_3.out); (case side3 => exact ca_ (Kd.C_below HR1_3.out HB.out)); (case side4 => exact HC1_3.out); rintro e w15 ⟨rfl, hb⟩; refine ⟨_, rfl, ?_⟩; replace BK138 := bb_ BK138 hb; replace BK139 := bb_ BK139 hb; replace HB := bt_ HB hb; (try clear hb)))
   go_ret
   exact ⟨es_, (bw_ HB).out⟩
  obtain rfl := si_ H
  go_enter Try.func12, Try.ntmps12
  go_wp2_with (first | ((refine gd_ 2 ?_); refine by_ 2 #[.int .i64 a0_0, .int .i64 a0_1, .int .i64 a0_2, .slice A0_3 l0_3.length c0_3] 34 HB ?_; intro gb138 hg w16 BK138 hb GW138 HB_; replace HB := HB_; clear hb hg) | ((refine gd_ 3 ?_); refine by_ 3 #[.int .i64 a1_0, .int .i64 a1_1, .int .i64 a1_2, .slice A1_3 l1_3.length c1_3] 34 HB ?_; intro gb139 hg w17 BK139 hb GW139 HB_; have NB138_139 := bm_ BK138 hg; have NB139_138 := bn_ BK138 hg; replace BK138 := bb_ BK138 hb; replace HB := HB_; clear hb hg; have hnb18 := NB138_139.out; have hnc18 := NB139_138.out; obtain ⟨hcz19_0, hcz19_1, hcz19_2, hcz19_3, hfz19_0, hfz19_1, hfz19_2, hfz19_3⟩ := ch4_ BK138; obtain ⟨hcz20_0, hcz20_1, hcz20_2, hcz20_3, hfz20_0, hfz20_1, hfz20_2, hfz20_3⟩ := ch4_ BK139) | ((refine gc_ 36 ?_); refine ge_ 9 Try.func36 #[.agg #[.int .i64 a0_0, .int .i64 a0_1, .int .i64 a0_2], .agg #[.int .i64 a1_0, .int .i64 a1_1, .int .i64 a1_2]] ?_; (with_reducible refine (laws_eqBall.calls a0_0 a0_1 a0_2 a1_0 a1_1 a1_2 true _ A3.out).mono ?_); rintro e w21 ⟨rfl, hb⟩; refine ⟨_, rfl, ?_⟩; replace BK138 := bb_ BK138 hb; replace BK139 := bb_ BK139 hb; replace HB := bt_ HB hb; (try clear hb); obtain ⟨hcz22_0, hcz22_1, hcz22_2, hcz22_3, hfz22_0, hfz22_1, hfz22_2, hfz22_3⟩ := ch4_ BK138; obtain ⟨hcz23_0, hcz23_1, hcz23_2, hcz23_3, hfz23_0, hfz23_1, hfz23_2, hfz23_3⟩ := ch4_ BK139) | ((refine gc_ 37 ?_); refine ge_ 15 Try.func37 #[.slice A0_3 l0_3.length c0_3, .slice A1_3 l1_3.length c1_3] ?_; (with_reducible refine (laws_eqPieceS.calls k _ _ l0_3 _ _ l1_3 false _ ?side1 ?side2 ?side3 ?side4 A5.out).mono ?_); (case side1 => exact ca_ (Kd.C_below HR0_3.out HB.out)); (case side2 => exact HC0_3.out); (case side3 => exact ca_ (Kd.C_below HR1_3.out HB.out)); (case side4 => exact HC1_3.out); rintro e w24 ⟨rfl, hb⟩; refine ⟨_, rfl, ?_⟩; replace BK138 := bb_ BK138 hb; replace BK139 := bb_ BK139 hb; replace HB := bt_ HB hb; (try clear hb)))
  go_ret
  exact ⟨es_, (bw_ HB).out⟩
 obtain rfl := si_ H
 go_enter Try.func12, Try.ntmps12
 go_wp2_with (first | ((refine gd_ 2 ?_); refine by_ 2 #[.int .i64 a0_0, .int .i64 a0_1, .int .i64 a0_2, .slice A0_3 l0_3.length c0_3] 34 HB ?_; intro gb138 hg w25 BK138 hb GW138 HB_; replace HB := HB_; clear hb hg) | ((refine gd_ 3 ?_); refine by_ 3 #[.int .i64 a1_0, .int .i64 a1_1, .int .i64 a1_2, .slice A1_3 l1_3.length c1_3] 34 HB ?_; intro gb139 hg w26 BK139 hb GW139 HB_; have NB138_139 := bm_ BK138 hg; have NB139_138 := bn_ BK138 hg; replace BK138 := bb_ BK138 hb; replace HB := HB_; clear hb hg; have hnb27 := NB138_139.out; have hnc27 := NB139_138.out; obtain ⟨hcz28_0, hcz28_1, hcz28_2, hcz28_3, hfz28_0, hfz28_1, hfz28_2, hfz28_3⟩ := ch4_ BK138; obtain ⟨hcz29_0, hcz29_1, hcz29_2, hcz29_3, hfz29_0, hfz29_1, hfz29_2, hfz29_3⟩ := ch4_ BK139) | ((refine gc_ 36 ?_); refine ge_ 9 Try.func36 #[.agg #[.int .i64 a0_0, .int .i64 a0_1, .int .i64 a0_2], .agg #[.int .i64 a1_0, .int .i64 a1_1, .int .i64 a1_2]] ?_; (with_reducible refine (laws_eqBall.calls a0_0 a0_1 a0_2 a1_0 a1_1 a1_2 false _ A3.out).mono ?_); rintro e w30 ⟨rfl, hb⟩; refine ⟨_, rfl, ?_⟩; replace BK138 := bb_ BK138 hb; replace BK139 := bb_ BK139 hb; replace HB := bt_ HB hb; (try clear hb)))
 go_ret
 exact ⟨es_, (bw_ HB).out⟩
end Go.Proofs.Ytdfcoebadjhjlaa.QH
