import Derived.Test.YtdfcoebadjhjlaaQIx5
import Derived.Test.YtdfcoebadjhjlaaQIx16
namespace Go.Proofs.Ytdfcoebadjhjlaa.QI
set_option maxHeartbeats 8000000
set_option maxRecDepth 100000
open Go.RowKit Go.Proofs.YtdfcoebadjhjlaaW.PrintWords Go.Proofs.YtdfcoebadjhjlaaW.PrintLast Go.Proofs.YtdfcoebadjhjlaaW.PrintMore
attribute [local go_sem] isSome_setCell max2_int min2_int max_two min_two max_three min_three max_four min_four
set_option linter.unusedVariables false
set_option linter.unusedSimpArgs false

/-! ### laws_toFlow: function 62 -/
def laws_toFlow.f (a0_0 a0_1 a0_2 a0_3 : Int) : Option (Int × Int × Int × Int) := (laws_toBall.f a0_0 a0_1 a0_2).bind fun bt321 => (some (bt321.1, bt321.2.1, bt321.2.2, a0_3))
theorem laws_toFlow.calls (a0_0 a0_1 a0_2 a0_3 r1 r2 r3 r4 : Int) (w : World) (h : laws_toFlow.f a0_0 a0_1 a0_2 a0_3 = some (r1, r2, r3, r4)) :
  Calls Try.prog 62 #[.agg #[.int .i64 a0_0, .int .i64 a0_1, .int .i64 a0_2, .int .i64 a0_3]] w fun e w' => e = .returned (.agg #[.int .i64 r1, .int .i64 r2, .int .i64 r3, .int .i64 r4]) ∧ Below w.heap.size w w' := by
 have hu94 := Try.underlying94
 have hu63 := Try.underlying63
 have hu23 := Try.underlying23
 have hu31 := Try.underlying31
 have HB := Aside0.mk (Below.refl w.heap.size w)
 unfold laws_toFlow.f at h
 have H := h
 clear h
 replace H := oc_ H
 obtain ⟨⟨t321, t322, t323⟩, A2, H⟩ := H
 simp only [Option.some.injEq, Prod.mk.injEq] at H
 obtain ⟨rfl, rfl, rfl, rfl⟩ := H
 go_enter Try.func62, Try.ntmps62
 go_wp2_with (first | ((refine gd_ 1 ?_); refine by_ 1 #[.int .i64 a0_0, .int .i64 a0_1, .int .i64 a0_2, .int .i64 a0_3] 94 HB ?_; intro gb318 hg w3 BK318 hb GW318 HB_; replace HB := HB_; clear hb hg) | ((refine gd_ 2 ?_); refine by_ 2 #[.int .i64 0, .int .i64 0, .int .i64 0, .int .i64 0] 63 HB ?_; intro gb319 hg w4 BK319 hb GW319 HB_; have NB318_319 := bm_ BK318 hg; have NB319_318 := bn_ BK318 hg; replace BK318 := bb_ BK318 hb; replace HB := HB_; clear hb hg) | ((refine gd_ 3 ?_); refine by_ 3 #[.int .i64 0, .int .i64 0, .int .i64 0, .int .i64 0] 63 HB ?_; intro gb320 hg w5 BK320 hb GW320 HB_; have NB318_320 := bm_ BK318 hg; have NB320_318 := bn_ BK318 hg; have NB319_320 := bm_ BK319 hg; have NB320_319 := bn_ BK319 hg; replace BK318 := bb_ BK318 hb; replace BK319 := bb_ BK319 hb; replace HB := HB_; clear hb hg; have hnb6 := NB318_319.out; have hnc6 := NB319_318.out; have hnb7 := NB318_320.out; have hnc7 := NB320_318.out; obtain ⟨hcz8_0, hcz8_1, hcz8_2, hcz8_3, hfz8_0, hfz8_1, hfz8_2, hfz8_3⟩ := ch4_ BK318) | ((refine gc_ 17 ?_); refine ge_ 6 Try.func17 #[.agg #[.int .i64 a0_0, .int .i64 a0_1, .int .i64 a0_2]] ?_; (with_reducible refine (laws_toBall.calls a0_0 a0_1 a0_2 t321 t322 t323 _ A2.out).mono ?_); rintro e w9 ⟨rfl, hb⟩; refine ⟨_, rfl, ?_⟩; replace BK318 := bb_ BK318 hb; replace BK319 := bb_ BK319 hb; replace BK320 := bb_ BK320 hb; replace HB := bt_ HB hb; (try clear hb); have hnb10 := NB320_319.out; have hnc10 := NB319_320.out; obtain ⟨hcz11_0, hcz11_1, hcz11_2, hcz11_3, hfz11_0, hfz11_1, hfz11_2, hfz11_3⟩ := ch4_ BK320; obtain ⟨hcz12_0, hcz12_1, hcz12_2, hcz12_3, hfz12_0, hfz12_1, hfz12_2, hfz12_3⟩ := ch4_ BK318; obtain ⟨hcz13_0, hcz13_1, hcz13_2, hcz13_3, hfz13_0, hfz13_1, hfz13_2, hfz13_3⟩ := ch4_ BK319))
 refine bodyPost_ret (results_cell_row rfl _ _ gb319 63 #[.int .i64 t321, .int .i64 t322, .int .i64 t323, .int .i64 a0_3] (0, 0) _ rfl (bp_ BK319).out Try.underlying63 rfl (by kernel_rfl)) rfl ?_
 exact ⟨es_, (bw_ HB).out⟩
/-! ### laws_toFlowS: function 27 -/
def laws_toFlowS.l0 : Nat → List (S94) → List (S63) → Int → Option ((List (S63)))
 | 0, _, _, _ => none
 | k + 1, x0, x3, x4 => if x4 < (x0.length : Int) then (if 0 ≤ x4 then ((laws_toFlow.f ((rd_T94 x0 x4).f0.f0) ((rd_T94 x0 x4).f0.f1) ((rd_T94 x0 x4).f0.f2) ((rd_T94 x0 x4).f1)).bind fun bt328 => (if x4 < (x3.length : Int) then (laws_toFlowS.l0 k x0 (x3.set (x4 : Int).toNat (⟨(⟨bt328.1, bt328.2.1, bt328.2.2.1⟩ : S31), bt328.2.2.2⟩ : S63)) (wrap64 (x4 + 1))) else (none))) else (none)) else (some x3)
def laws_toFlowS.f (k : Nat) (l0 : List (S94)) : Option ((List (S63))) := if 0 ≤ (l0.length : Int) then (if ((l0.length : Int) : Int).toNat ≤ 8796093022208 then (laws_toFlowS.l0 k l0 (List.replicate ((l0.length : Int) : Int).toNat z63) 0) else (none)) else (none)
theorem laws_toFlowS.calls (k : Nat) (A0 : Option Addr) (c0 : Nat) (l0 : List (S94)) (r : List (S63)) (w : World) (hr0 : Kd.C k94 w A0 l0.length l0) (hc0 : l0.length ≤ c0) (h : laws_toFlowS.f k l0 = some r) :
  Calls Try.prog 27 #[.slice A0 l0.length c0] w fun e w' => ∃ v0_ : Value, e = .returned (v0_) ∧ Kd.R k63 63 w' w.heap.size (fun _ => True) v0_ r ∧ Below w.heap.size w w' := by
 have hu94 := Try.underlying94
 have hu63 := Try.underlying63
 have HR0 := Aside0.mk hr0
 have HC0 := Aside0.mk hc0
 clear hr0 hc0
 have HB := Aside0.mk (Below.refl w.heap.size w)
 unfold laws_toFlowS.f at h
 have H := h
 clear h
 by_cases c2 : 0 ≤ (l0.length : Int)
 ·rw [if_pos c2] at H
  have c2b0 := eq_true c2
  have c2b1 : decide (0 ≤ (l0.length : Int)) = true := decide_eq_true c2
  clear c2
  by_cases c3 : ((l0.length : Int) : Int).toNat ≤ 8796093022208
  ·rw [if_pos c3] at H
   have c3b0 := eq_true c3
   have c3b1 : decide (((l0.length : Int) : Int).toNat ≤ 8796093022208) = true := decide_eq_true c3
   clear c3
   obtain ⟨y324, hy324⟩ : ∃ y_ : List (S63), y_ = (List.replicate ((l0.length : Int) : Int).toNat z63) := ⟨_, rfl⟩
   replace H : (laws_toFlowS.l0 k l0 y324 0) = some r := by first | (rw [hy324]; with_reducible exact H) | (have H2_ := (Option.bind_some _ _).symm.trans H; rw [hy324]; with_reducible exact H2_) | (have H2_ := (Option.bind_some _ _).symm.trans H; with_reducible exact H2_) | with_reducible exact H | (rw [hy324]; exact H) | exact H
   have Ny324 := Aside0.mk hy324
   clear hy324
   have H' := Aside0.mk H
   clear H
   go_enter Try.func27, Try.ntmps27
   go_wp2_with (first | ((refine gd_ 7 ?_); refine Kd.R_make k63 _ 63 rfl (N := 7) rfl 28 _ _ rfl (l0.length : Int) rfl rfl Try.underlying28 (.agg #[(.int .i64 0), (.int .i64 0), (.int .i64 0), (.int .i64 0)]) 32 info63 rfl (by decide) (by omega) z63 (ok := fun _ => True) (okp := fun _ => True) (k63_mkM _ _ _ z63 ) (fun _ hk => hk) trivial od_ (Nat.le_trans (Nat.mul_le_mul_right _ (od_ : (l0.length : Int).toNat ≤ 8796093022208)) (by omega)) (Below.refl _ _) (Nat.le_refl _) ?_; intro v325 w4 ho5 hb hg_ hnew_; clear hg_ hnew_; (first | rw [← Ny324.out] at ho5 | (simp only [Int.reduceToNat] at ho5; rw [← Ny324.out] at ho5)); have HO326 := Aside0.mk (Kd.R_lower ho5 (below_size (bw_ HB).out)); replace HB := bt_ HB hb; clear hb ho5))
   go_loopg [4] k (fun kq v4 w' => ∃ (x3_1 : List (S63)) (x4_1 : Int), v4 = .int .i64 x4_1 ∧ Aside0 (laws_toFlowS.l0 kq l0 x3_1 x4_1 = some r) ∧ Aside0 (kq ≤ k) ∧ Aside0 (Kd.R k63 63 w' w.heap.size (fun _ => True) v325 x3_1) ∧ Aside0 (Below w.heap.size w w'))
   case atStart => exact ⟨(y324), (0), en_, H', ⟨Nat.le_refl _⟩, ⟨by (with_reducible repeat (first | apply Kd.R_alloc | apply Kd.R_drewN | apply Kd.R_drew)); exact HO326.out⟩, bw_ HB⟩
   clear H'
   try clear c2
   try clear c2b0
   try clear c2b1
   try clear c3
   try clear c3b0
   try clear c3b1
   obtain ⟨x3_1, x4_1, rfl, HA, HK1, HO_3, HB⟩ := hrel
   cases gk with
   | zero => exact absurd HA.out (by simp [laws_toFlowS.l0])
   | succ k1 =>
    have H := HA.out
    clear HA
    simp only [laws_toFlowS.l0] at H
    replace H := il_ H
    rcases H with ⟨c6b0, H⟩ | ⟨c6b0, H⟩
    ·replace H := imn_ H
     obtain ⟨c7b0, H⟩ := H
     replace H := oc_ H
     obtain ⟨⟨t328, t329, t330, t331⟩, A8, H⟩ := H
     replace H := iln_ H
     obtain ⟨c9b0, H⟩ := H
     obtain ⟨y332, hy332⟩ : ∃ y_ : List (S63), y_ = (x3_1.set (x4_1 : Int).toNat (⟨(⟨t328, t329, t330⟩ : S31), t331⟩ : S63)) := ⟨_, rfl⟩
     replace H : (laws_toFlowS.l0 k1 l0 y332 (wrap64 (x4_1 + 1))) = some r := by first | (rw [hy332]; with_reducible exact H) | (have H2_ := (Option.bind_some _ _).symm.trans H; rw [hy332]; with_reducible exact H2_) | (have H2_ := (Option.bind_some _ _).symm.trans H; with_reducible exact H2_) | with_reducible exact H | (rw [hy332]; exact H) | exact H
     have Ny332 := Aside0.mk hy332
     clear hy332
     have H' := Aside0.mk H
     clear H
     have p327 : 0 ≤ (x4_1 : Int) := od_
     have q327 : x4_1 < (l0.length : Int) := od_
     obtain ⟨ad327, e327, hx327_0, hx327_1, hx327_2, hx327_3⟩ := at_T94 HR0.out x4_1 p327 q327
     cases e327
     replace hx327_0 := clTr HB.out hx327_0
     replace hx327_1 := clTr HB.out hx327_1
     replace hx327_2 := clTr HB.out hx327_2
     replace hx327_3 := clTr HB.out hx327_3
     replace p327 := eq_true p327
     replace q327 := eq_true q327
     go_wp2_with (first | ((refine gc_ 62 ?_); refine ge_ 20 Try.func62 #[.agg #[.int .i64 ((rd_T94 l0 x4_1).f0.f0), .int .i64 ((rd_T94 l0 x4_1).f0.f1), .int .i64 ((rd_T94 l0 x4_1).f0.f2), .int .i64 ((rd_T94 l0 x4_1).f1)]] ?_; (with_reducible refine (laws_toFlow.calls ((rd_T94 l0 x4_1).f0.f0) ((rd_T94 l0 x4_1).f0.f1) ((rd_T94 l0 x4_1).f0.f2) ((rd_T94 l0 x4_1).f1) t328 t329 t330 t331 _ A8.out).mono ?_); rintro e w11 ⟨rfl, hb⟩; refine ⟨_, rfl, ?_⟩; replace HO_3 := rb_ HO_3 hb; replace HB := bt_ HB hb; (try clear hb); have p10 : 0 ≤ (x4_1 : Int) := od_; have q10 : (x4_1 : Int) < ((x3_1.length : Int) : Int) := od_; obtain ⟨go10, co10, eo10, gb10, gl10, cl10, HG10⟩ := Kd.R_form HO_3.out (by omega); (first | cases eo10 | (injection eo10 with ea_ en_ ec_; (first | subst ea_ | (injection ea_ with ea_; subst ea_)); subst ec_; clear en_)); have GB10 := Aside0.mk gb10; have GG10 := Aside0.mk HG10; clear gb10 gl10 HG10; obtain ⟨ce10, hcl10, hM10, hcc10, hfr10⟩ := Kd.R_elem HO_3.out z63 (x4_1 : Int) p10 q10; obtain rfl := k63_openM hM10; have hx10_0 : w11.cell? ⟨go10, (x4_1 : Int).toNat * 4, none⟩ = some (.int .i64 ((rd_T63 x3_1 x4_1).f0.f0)) := hcc10 0 _ rfl; have hx10_1 : w11.cell? ⟨go10, (x4_1 : Int).toNat * 4 + 1, none⟩ = some (.int .i64 ((rd_T63 x3_1 x4_1).f0.f1)) := hcc10 1 _ rfl; have hx10_2 : w11.cell? ⟨go10, (x4_1 : Int).toNat * 4 + 2, none⟩ = some (.int .i64 ((rd_T63 x3_1 x4_1).f0.f2)) := hcc10 2 _ rfl; have hx10_3 : w11.cell? ⟨go10, (x4_1 : Int).toNat * 4 + 3, none⟩ = some (.int .i64 ((rd_T63 x3_1 x4_1).f1)) := hcc10 3 _ rfl; have hf10_0 : w11.frozen? ⟨go10, (x4_1 : Int).toNat * 4, none⟩ = false := hfr10 0; have hf10_1 : w11.frozen? ⟨go10, (x4_1 : Int).toNat * 4 + 1, none⟩ = false := hfr10 1; have hf10_2 : w11.frozen? ⟨go10, (x4_1 : Int).toNat * 4 + 2, none⟩ = false := hfr10 2; have hf10_3 : w11.frozen? ⟨go10, (x4_1 : Int).toNat * 4 + 3, none⟩ = false := hfr10 3; clear hcl10 hcc10 hfr10 hM10; replace p10 := eq_true p10; replace q10 := eq_true q10; have HX12 := Aside0.mk (show Kd.R k63 63 w11 w.heap.size (fun _ => True) (.slice (some ⟨go10, 0, none⟩) x3_1.length co10) x3_1 from (ra_ HO_3.out)); obtain ⟨ce12, hcl12, hM12, hcc12, hfr12⟩ := Kd.R_elem HX12.out z63 (x4_1 : Int) od_ (by have h_ : (x4_1 : Int) < ((x3_1.length : Int) : Int) := od_; first | exact h_ | (have e_ := (Kd.R_reads' HO_3.out).1; omega) | simpa using h_); obtain rfl := k63_openM hM12; have HP12 := Kd.R_seg HX12.out (x4_1 : Int) od_ (by have h_ : (x4_1 : Int) < ((x3_1.length : Int) : Int) := od_; first | exact h_ | (have e_ := (Kd.R_reads' HO_3.out).1; omega) | simpa using h_) (seg := [.int .i64 t328, .int .i64 t329, .int .i64 t330, .int .i64 t331]) (j := 0) hcl12 hcc12 (show 4 ≤ 4 from by decide) (x' := (⟨(⟨t328, t329, t330⟩ : S31), t331⟩ : S63)) (k63_mkM _ _ _ (⟨(⟨t328, t329, t330⟩ : S31), t331⟩ : S63) ) (fun _ hk => hk); have hx12_0 := hcc12 0 _ rfl; (try simp only [show (k63).sz = 4 from rfl, Nat.mul_one, Nat.add_zero] at hx12_0); have hf12_0 := hfr12 0; (try simp only [show (k63).sz = 4 from rfl, Nat.mul_one, Nat.add_zero] at hf12_0); have hx12_1 := hcc12 1 _ rfl; (try simp only [show (k63).sz = 4 from rfl, Nat.mul_one, Nat.add_zero] at hx12_1); have hf12_1 := hfr12 1; (try simp only [show (k63).sz = 4 from rfl, Nat.mul_one, Nat.add_zero] at hf12_1); have hx12_2 := hcc12 2 _ rfl; (try simp only [show (k63).sz = 4 from rfl, Nat.mul_one, Nat.add_zero] at hx12_2); have hf12_2 := hfr12 2; (try simp only [show (k63).sz = 4 from rfl, Nat.mul_one, Nat.add_zero] at hf12_2); have hx12_3 := hcc12 3 _ rfl; (try simp only [show (k63).sz = 4 from rfl, Nat.mul_one, Nat.add_zero] at hx12_3); have hf12_3 := hfr12 3; (try simp only [show (k63).sz = 4 from rfl, Nat.mul_one, Nat.add_zero] at hf12_3); clear hcl12 hcc12 hfr12 hM12) | ((with_reducible refine gate_store (t := 63) (p := 21) rfl ?_); refine store_event (t := 63) (p := 21) (v := ?vo_w13) (w1 := ((((w11.setCell ⟨go10, (x4_1 : Int).toNat * 4, none⟩ (.int .i64 t328)).setCell ⟨go10, (x4_1 : Int).toNat * 4 + 1, none⟩ (.int .i64 t329)).setCell ⟨go10, (x4_1 : Int).toNat * 4 + 2, none⟩ (.int .i64 t330)).setCell ⟨go10, (x4_1 : Int).toNat * 4 + 3, none⟩ (.int .i64 t331))) ?hg ?ho ?hn ?hr ?_; (case ho => rfl); (case hg => rfl); (case hn => rfl); (case hr => first | (go_simp; done) | (go_simp; rfl)); intro w13 hw; have hg : w11.grownBy w13 (some go10) := (by rw [hw]; exact HP12.2); have hp_ : Kd.R k63 63 w13 w.heap.size (fun _ => True) (.slice (some ⟨go10, 0, none⟩) x3_1.length co10) y332 := (by rw [hw, Ny332.out]; exact HP12.1); clear HP12; replace HO_3 := Aside0.mk (hp_); replace HB := Aside0.mk ((by rw [hw]; exact below_set (below_set (below_set (below_set (HB.out) GB10.out) GB10.out) GB10.out) GB10.out : Below w.heap.size w w13)); clear hg hw hp_))
     go_roundg k1
     case measure => have := HK1.out; omega
     case rel => exact ⟨(y332), (wrap64 (x4_1 + 1)), en_, H', ⟨by have := HK1.out; omega⟩, ⟨by (with_reducible repeat (first | apply Kd.R_alloc | apply Kd.R_drewN | apply Kd.R_drew)); exact HO_3.out⟩, bw_ HB⟩
    obtain rfl := si_ H
    go_wp2
    go_ret
    exact ⟨_, es_, by (with_reducible repeat (first | apply Kd.R_alloc | apply Kd.R_drewN | apply Kd.R_drew)); exact HO_3.out, (bw_ HB).out⟩
  rw [if_neg c3] at H
  exact absurd H (by simp)
 rw [if_neg c2] at H
 exact absurd H (by simp)
/-! ### impl_within: function 86 -/
def impl_within.l0 : Nat → Int → List Int → Int → Int → Option (Bool)
 | 0, _, _, _, _ => none
 | k + 1, x0, x7, x8, x9 => if x9 < x8 then (if 0 ≤ x9 then (if x9 < (x7.length : Int) then (if (rd x7 x9) < (wrap64 (-x0)) then (some false) else (if (rd x7 x9) > x0 then (some false) else (impl_within.l0 k x0 x7 x8 (wrap64 (x9 + 1))))) else (none)) else (none)) else (some true)
def impl_within.f (k : Nat) (a0 : Int) (l1 : List Int) : Option (Bool) := impl_within.l0 k a0 l1 (l1.length : Int) 0
theorem impl_within.calls (k : Nat) (a0 : Int) (A1 : Option Addr) (c1 : Nat) (l1 : List Int) (r : Bool) (w : World) (hr1 : Kd.C (Kd.int .i64) w A1 l1.length l1) (hc1 : l1.length ≤ c1) (h : impl_within.f k a0 l1 = some r) :
  Calls Try.prog 86 #[.int .i64 a0, .slice A1 l1.length c1] w fun e w' => e = .returned (.bool r) ∧ Drawn0 w w' := by
 have HR1 := Aside0.mk hr1
 have HC1 := Aside0.mk hc1
 clear hr1 hc1
 unfold impl_within.f at h
 have H := h
 clear h
 have H' := Aside0.mk H
 clear H
 go_enter Try.func86, Try.ntmps86
 go_wp2
 go_loopg [9] k (fun kq v9 w' => ∃ (x9_1 : Int), v9 = .int .i64 x9_1 ∧ Aside0 (impl_within.l0 kq a0 l1 (l1.length : Int) x9_1 = some r) ∧ Aside0 (kq ≤ k) ∧ Drawn0 w w')
 case atStart => exact ⟨(0), en_, H', ⟨Nat.le_refl _⟩, de_⟩
 clear H'
 try clear c1
 obtain ⟨x9_1, rfl, HA, HK1, ⟨m1, rfl⟩⟩ := hrel
 cases gk with
 | zero => exact absurd HA.out (by simp [impl_within.l0])
 | succ k1 =>
  have H := HA.out
  clear HA
  simp only [impl_within.l0] at H
  replace H := il_ H
  rcases H with ⟨c3b0, H⟩ | ⟨c3b0, H⟩
  ·replace H := imn_ H
   obtain ⟨c4b0, H⟩ := H
   replace H := iln_ H
   obtain ⟨c5b0, H⟩ := H
   replace H := il_ H
   rcases H with ⟨c6b0, H⟩ | ⟨c6b0, H⟩
   ·obtain rfl := si_ H
    have p333 : 0 ≤ (x9_1 : Int) := od_
    have q333 : x9_1 < (l1.length : Int) := od_
    obtain ⟨ad333, e333, hx333_0⟩ := Kd.at_int HR1.out x9_1 p333 q333
    cases e333
    replace p333 := eq_true p333
    replace q333 := eq_true q333
    go_wp2
    go_ret
    exact ⟨en_, de_⟩
   replace H := ig_ H
   rcases H with ⟨c7b0, H⟩ | ⟨c7b0, H⟩
   ·obtain rfl := si_ H
    have p333 : 0 ≤ (x9_1 : Int) := od_
    have q333 : x9_1 < (l1.length : Int) := od_
    obtain ⟨ad333, e333, hx333_0⟩ := Kd.at_int HR1.out x9_1 p333 q333
    cases e333
    replace p333 := eq_true p333
    replace q333 := eq_true q333
    go_wp2
    go_ret
    exact ⟨en_, de_⟩
   have H' := Aside0.mk H
   clear H
   have p333 : 0 ≤ (x9_1 : Int) := od_
   have q333 : x9_1 < (l1.length : Int) := od_
   obtain ⟨ad333, e333, hx333_0⟩ := Kd.at_int HR1.out x9_1 p333 q333
   cases e333
   replace p333 := eq_true p333
   replace q333 := eq_true q333
   go_wp2
   go_roundg k1
   case measure => have := HK1.out; omega
   case rel => exact ⟨(wrap64 (x9_1 + 1)), en_, H', ⟨by have := HK1.out; omega⟩, de_⟩
  obtain rfl := si_ H
  go_wp2
  go_ret
  exact ⟨en_, de_⟩
/-! ### impl_isWeight: function 56 -/
def impl_isWeight.f (k : Nat) (l0 : List Int) : Option (Bool) := (impl_within.f k 1000000 l0).bind fun t334 => (some t334)
theorem impl_isWeight.calls (k : Nat) (A0 : Option Addr) (c0 : Nat) (l0 : List Int) (r : Bool) (w : World) (hr0 : Kd.C (Kd.int .i64) w A0 l0.length l0) (hc0 : l0.length ≤ c0) (h : impl_isWeight.f k l0 = some r) :
  Calls Try.prog 56 #[.slice A0 l0.length c0] w fun e w' => e = .returned (.bool r) ∧ Drawn0 w w' := by
 have HR0 := Aside0.mk hr0
 have HC0 := Aside0.mk hc0
 clear hr0 hc0
 unfold impl_isWeight.f at h
 have H := h
 clear h
 replace H := oc_ H
 obtain ⟨t334, A2, H⟩ := H
 obtain rfl := si_ H
 go_enter Try.func56, Try.ntmps56
 go_wp2_with (first | ((refine gc_ 86 ?_); refine ge_ 4 Try.func86 #[.int .i64 1000000, .slice A0 l0.length c0] ?_; (with_reducible refine (impl_within.calls k 1000000 _ _ l0 t334 _ ?side1 ?side2 A2.out).mono ?_); (case side1 => exact ca_ HR0.out); (case side2 => exact HC0.out); rintro e w' ⟨rfl, ⟨nd, rfl⟩⟩; refine ⟨_, rfl, ?_⟩))
 go_ret
 exact ⟨en_, de_⟩
/-! ### impl_power: function 81 -/
def impl_power.l0 : Nat → Int → Int → Int → Int → Option (Int)
 | 0, _, _, _, _ => none
 | k + 1, x0, x5, x6, x7 => if x7 < x6 then (impl_power.l0 k x0 (wrap64 (x5 * x0)) x6 (wrap64 (x7 + 1))) else (some x5)
def impl_power.f (k : Nat) (a0 a1 : Int) : Option (Int) := impl_power.l0 k a0 1 a1 0
theorem impl_power.calls (k : Nat) (a0 a1 r : Int) (w : World) (h : impl_power.f k a0 a1 = some r) :
  Calls Try.prog 81 #[.int .i64 a0, .int .i64 a1] w fun e w' => e = .returned (.int .i64 r) ∧ Drawn0 w w' := by
 unfold impl_power.f at h
 have H := h
 clear h
 have H' := Aside0.mk H
 clear H
 go_enter Try.func81, Try.ntmps81
 go_wp2
 go_loopg [5, 7] k (fun kq v5 v7 w' => ∃ (x5_1 : Int) (x7_1 : Int), v5 = .int .i64 x5_1 ∧ v7 = .int .i64 x7_1 ∧ Aside0 (impl_power.l0 kq a0 x5_1 a1 x7_1 = some r) ∧ Aside0 (kq ≤ k) ∧ Drawn0 w w')
 case atStart => exact ⟨(1), (0), en_, en_, H', ⟨Nat.le_refl _⟩, de_⟩
 clear H'
 obtain ⟨x5_1, x7_1, rfl, rfl, HA, HK1, ⟨m1, rfl⟩⟩ := hrel
 cases gk with
 | zero => exact absurd HA.out (by simp [impl_power.l0])
 | succ k1 =>
  have H := HA.out
  clear HA
  simp only [impl_power.l0] at H
  replace H := il_ H
  rcases H with ⟨c3b0, H⟩ | ⟨c3b0, H⟩
  ·have H' := Aside0.mk H
   clear H
   go_wp2
   go_roundg k1
   case measure => have := HK1.out; omega
   case rel => exact ⟨(wrap64 (x5_1 * a0)), (wrap64 (x7_1 + 1)), en_, en_, H', ⟨by have := HK1.out; omega⟩, de_⟩
  obtain rfl := si_ H
  go_wp2
  go_ret
  exact ⟨en_, de_⟩
/-! ### impl_isPrime: function 89 -/
def impl_isPrime.f (a0 : Int) : Option (Bool) := if a0 = 2 then (some true) else (if a0 = 3 then (some true) else (if a0 = 5 then (some true) else (some (a0 == 7))))
theorem impl_isPrime.calls (a0 : Int) (r : Bool) (w : World) (h : impl_isPrime.f a0 = some r) :
  Calls Try.prog 89 #[.int .i64 a0] w fun e w' => e = .returned (.bool r) ∧ Drawn0 w w' := by
 unfold impl_isPrime.f at h
 have H := h
 clear h
 replace H := ie_ H
 rcases H with ⟨c2b0, c2b1, H⟩ | ⟨c2, c2b0, c2b1, H⟩
 ·obtain rfl := si_ H
  go_enter Try.func89, Try.ntmps89
  go_wp2
  go_ret
  exact ⟨en_, de_⟩
 replace H := ie_ H
 rcases H with ⟨c3b0, c3b1, H⟩ | ⟨c3, c3b0, c3b1, H⟩
 ·obtain rfl := si_ H
  go_enter Try.func89, Try.ntmps89
  go_wp2
  go_ret
  exact ⟨en_, de_⟩
 replace H := ie_ H
 rcases H with ⟨c4b0, c4b1, H⟩ | ⟨c4, c4b0, c4b1, H⟩
 ·obtain rfl := si_ H
  go_enter Try.func89, Try.ntmps89
  go_wp2
  go_ret
  exact ⟨en_, de_⟩
 obtain rfl := si_ H
 go_enter Try.func89, Try.ntmps89
 go_wp2
 go_ret
 exact ⟨en_, de_⟩
/-! ### impl_isLevel: function 90 -/
def impl_isLevel.f (a0 : Int) : Option (Bool) := if a0 ≥ (-6) then (some (decide (a0 ≤ 6))) else (some false)
theorem impl_isLevel.calls (a0 : Int) (r : Bool) (w : World) (h : impl_isLevel.f a0 = some r) :
  Calls Try.prog 90 #[.int .i64 a0] w fun e w' => e = .returned (.bool r) ∧ Drawn0 w w' := by
 unfold impl_isLevel.f at h
 have H := h
 clear h
 replace H := in_ H
 rcases H with ⟨c2b0, H⟩ | ⟨c2b0, H⟩
 ·obtain rfl := si_ H
  go_enter Try.func90, Try.ntmps90
  go_wp2
  go_ret
  exact ⟨en_, de_⟩
 obtain rfl := si_ H
 go_enter Try.func90, Try.ntmps90
 go_wp2
 go_ret
 exact ⟨en_, de_⟩
end Go.Proofs.Ytdfcoebadjhjlaa.QI
