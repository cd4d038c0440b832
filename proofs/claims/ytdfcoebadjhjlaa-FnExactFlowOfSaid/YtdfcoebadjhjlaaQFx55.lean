import Derived.Test.YtdfcoebadjhjlaaQFx9
namespace Go.Proofs.Ytdfcoebadjhjlaa.QF
set_option maxHeartbeats 8000000
set_option maxRecDepth 100000
open Go.RowKit Go.Proofs.YtdfcoebadjhjlaaW.PrintWords Go.Proofs.YtdfcoebadjhjlaaW.PrintLast Go.Proofs.YtdfcoebadjhjlaaW.PrintMore
attribute [local go_sem] isSome_setCell max2_int min2_int max_two min_two max_three min_three max_four min_four
set_option linter.unusedVariables false
set_option linter.unusedSimpArgs false

/-! ### laws_markFlowS: function 14 -/
def laws_markFlowS.l0 : Nat → List (S63) → Int → Int → Option (Int × (List (S63)))
 | 0, _, _, _ => none
 | k + 1, x0, x1, x5 => if x5 < (x0.length : Int) then (if 0 ≤ x5 then ((some (x0.set (x5 : Int).toNat (⟨(⟨x1, (rd_T63 x0 x5).f0.f1, (rd_T63 x0 x5).f0.f2⟩ : S31), (rd_T63 x0 x5).f1⟩ : S63) : List (S63))).bind fun y408 => ((some (y408.set (x5 : Int).toNat (⟨(⟨(rd_T63 y408 x5).f0.f0, wrap64 (x1 + 1), (rd_T63 y408 x5).f0.f2⟩ : S31), (rd_T63 y408 x5).f1⟩ : S63) : List (S63))).bind fun y409 => ((some (y409.set (x5 : Int).toNat (⟨(⟨(rd_T63 y409 x5).f0.f0, (rd_T63 y409 x5).f0.f1, wrap64 ((wrap64 (x1 + 1)) + 1)⟩ : S31), (rd_T63 y409 x5).f1⟩ : S63) : List (S63))).bind fun y410 => (laws_markFlowS.l0 k (y410.set (x5 : Int).toNat (⟨(⟨(rd_T63 y410 x5).f0.f0, (rd_T63 y410 x5).f0.f1, (rd_T63 y410 x5).f0.f2⟩ : S31), wrap64 ((wrap64 ((wrap64 (x1 + 1)) + 1)) + 1)⟩ : S63)) (wrap64 ((wrap64 ((wrap64 ((wrap64 (x1 + 1)) + 1)) + 1)) + 1)) (wrap64 (x5 + 1)))))) else (none)) else (some (x1, x0))
def laws_markFlowS.f (k : Nat) (l0 : List (S63)) (a1 : Int) : Option (Int × (List (S63))) := laws_markFlowS.l0 k l0 a1 0
theorem laws_markFlowS.calls (k : Nat) (P0_ : Nat → Prop) (u9000_ : Value) (l0 : List (S63)) (a1 r1 : Int) (r2 : List (S63)) (w0 w : World) (hB : Below w0.heap.size w0 w) (ho0 : Kd.R k63 63 w w0.heap.size P0_ u9000_ l0) (h : laws_markFlowS.f k l0 a1 = some (r1, r2)) :
  Calls Try.prog 14 #[u9000_, .int .i64 a1] w fun e w' => e = .returned (.int .i64 r1) ∧ Kd.R k63 63 w' w0.heap.size (fun k_ => (P0_ k_ ∨ w.heap.size ≤ k_)) u9000_ r2 ∧ Below w0.heap.size w0 w' ∧ Kept w w' (fun k_ => P0_ k_) := by
 have hu63 := Try.underlying63
 have hu31 := Try.underlying31
 have HO0 := Aside0.mk (show Kd.R k63 63 w w0.heap.size (fun k_ => (P0_ k_ ∨ w.heap.size ≤ k_)) u9000_ l0 from Kd.R_mono ho0 (fun k_ hk => (.inl hk)))
 have HK := Aside0.mk (Kept.refl w (fun k_ => P0_ k_))
 have HW0 := Aside0.mk hB.size
 have HB := Aside0.mk hB
 clear hB
 unfold laws_markFlowS.f at h
 have H := h
 clear h
 have H' := Aside0.mk H
 clear H
 go_enter Try.func14, Try.ntmps14
 go_wp2
 go_loopg [1, 5] k (fun kq v1 v5 w' => ∃ (x0_1 : List (S63)) (x1_1 : Int) (x5_1 : Int), v1 = .int .i64 x1_1 ∧ v5 = .int .i64 x5_1 ∧ Aside0 (laws_markFlowS.l0 kq x0_1 x1_1 x5_1 = some (r1, r2)) ∧ Aside0 (kq ≤ k) ∧ Aside0 (Kd.R k63 63 w' w0.heap.size (fun k_ => (P0_ k_ ∨ w.heap.size ≤ k_)) u9000_ x0_1) ∧ Aside0 (Kept w w' (fun k_ => P0_ k_)) ∧ Aside0 (Below w0.heap.size w0 w'))
 case atStart => exact ⟨(l0), (a1), (0), en_, en_, H', ⟨Nat.le_refl _⟩, ⟨by (with_reducible repeat (first | apply Kd.R_alloc | apply Kd.R_drewN | apply Kd.R_drew)); exact HO0.out⟩, ⟨by repeat (first | (with_reducible first | exact HK.out | apply Kept.alloc | apply Kept.drewN | apply Kept.drew) | exact HK.out)⟩, bw_ HB⟩
 clear H'
 obtain ⟨x0_1, x1_1, x5_1, rfl, rfl, HA, HK1, HO_0, HK, HB⟩ := hrel
 cases gk with
 | zero => exact absurd HA.out (by simp [laws_markFlowS.l0])
 | succ k1 =>
  have H := HA.out
  clear HA
  simp only [laws_markFlowS.l0] at H
  replace H := il_ H
  rcases H with ⟨c3b0, H⟩ | ⟨c3b0, H⟩
  ·replace H := imn_ H
   obtain ⟨c4b0, H⟩ := H
   obtain ⟨y408, hy408⟩ : ∃ y_ : List (S63), y_ = (x0_1.set (x5_1 : Int).toNat (⟨(⟨x1_1, (rd_T63 x0_1 x5_1).f0.f1, (rd_T63 x0_1 x5_1).f0.f2⟩ : S31), (rd_T63 x0_1 x5_1).f1⟩ : S63)) := ⟨_, rfl⟩
   replace H : ((some (y408.set (x5_1 : Int).toNat (⟨(⟨(rd_T63 y408 x5_1).f0.f0, wrap64 (x1_1 + 1), (rd_T63 y408 x5_1).f0.f2⟩ : S31), (rd_T63 y408 x5_1).f1⟩ : S63) : List (S63))).bind fun y409 => ((some (y409.set (x5_1 : Int).toNat (⟨(⟨(rd_T63 y409 x5_1).f0.f0, (rd_T63 y409 x5_1).f0.f1, wrap64 ((wrap64 (x1_1 + 1)) + 1)⟩ : S31), (rd_T63 y409 x5_1).f1⟩ : S63) : List (S63))).bind fun y410 => (laws_markFlowS.l0 k1 (y410.set (x5_1 : Int).toNat (⟨(⟨(rd_T63 y410 x5_1).f0.f0, (rd_T63 y410 x5_1).f0.f1, (rd_T63 y410 x5_1).f0.f2⟩ : S31), wrap64 ((wrap64 ((wrap64 (x1_1 + 1)) + 1)) + 1)⟩ : S63)) (wrap64 ((wrap64 ((wrap64 ((wrap64 (x1_1 + 1)) + 1)) + 1)) + 1)) (wrap64 (x5_1 + 1))))) = some (r1, r2) := by first | (rw [hy408]; with_reducible exact H) | (have H2_ := (Option.bind_some _ _).symm.trans H; rw [hy408]; with_reducible exact H2_) | (have H2_ := (Option.bind_some _ _).symm.trans H; with_reducible exact H2_) | with_reducible exact H | (rw [hy408]; exact H) | exact H
   have Ny408 := Aside0.mk hy408
   clear hy408
   obtain ⟨y409, hy409⟩ : ∃ y_ : List (S63), y_ = (y408.set (x5_1 : Int).toNat (⟨(⟨(rd_T63 y408 x5_1).f0.f0, wrap64 (x1_1 + 1), (rd_T63 y408 x5_1).f0.f2⟩ : S31), (rd_T63 y408 x5_1).f1⟩ : S63)) := ⟨_, rfl⟩
   replace H : ((some (y409.set (x5_1 : Int).toNat (⟨(⟨(rd_T63 y409 x5_1).f0.f0, (rd_T63 y409 x5_1).f0.f1, wrap64 ((wrap64 (x1_1 + 1)) + 1)⟩ : S31), (rd_T63 y409 x5_1).f1⟩ : S63) : List (S63))).bind fun y410 => (laws_markFlowS.l0 k1 (y410.set (x5_1 : Int).toNat (⟨(⟨(rd_T63 y410 x5_1).f0.f0, (rd_T63 y410 x5_1).f0.f1, (rd_T63 y410 x5_1).f0.f2⟩ : S31), wrap64 ((wrap64 ((wrap64 (x1_1 + 1)) + 1)) + 1)⟩ : S63)) (wrap64 ((wrap64 ((wrap64 ((wrap64 (x1_1 + 1)) + 1)) + 1)) + 1)) (wrap64 (x5_1 + 1)))) = some (r1, r2) := by first | (rw [hy409]; with_reducible exact H) | (have H2_ := (Option.bind_some _ _).symm.trans H; rw [hy409]; with_reducible exact H2_) | (have H2_ := (Option.bind_some _ _).symm.trans H; with_reducible exact H2_) | with_reducible exact H | (rw [hy409]; exact H) | exact H
   have Ny409 := Aside0.mk hy409
   clear hy409
   obtain ⟨y410, hy410⟩ : ∃ y_ : List (S63), y_ = (y409.set (x5_1 : Int).toNat (⟨(⟨(rd_T63 y409 x5_1).f0.f0, (rd_T63 y409 x5_1).f0.f1, wrap64 ((wrap64 (x1_1 + 1)) + 1)⟩ : S31), (rd_T63 y409 x5_1).f1⟩ : S63)) := ⟨_, rfl⟩
   replace H : (laws_markFlowS.l0 k1 (y410.set (x5_1 : Int).toNat (⟨(⟨(rd_T63 y410 x5_1).f0.f0, (rd_T63 y410 x5_1).f0.f1, (rd_T63 y410 x5_1).f0.f2⟩ : S31), wrap64 ((wrap64 ((wrap64 (x1_1 + 1)) + 1)) + 1)⟩ : S63)) (wrap64 ((wrap64 ((wrap64 ((wrap64 (x1_1 + 1)) + 1)) + 1)) + 1)) (wrap64 (x5_1 + 1))) = some (r1, r2) := by first | (rw [hy410]; with_reducible exact H) | (have H2_ := (Option.bind_some _ _).symm.trans H; rw [hy410]; with_reducible exact H2_) | (have H2_ := (Option.bind_some _ _).symm.trans H; with_reducible exact H2_) | with_reducible exact H | (rw [hy410]; exact H) | exact H
   have Ny410 := Aside0.mk hy410
   clear hy410
   obtain ⟨y411, hy411⟩ : ∃ y_ : List (S63), y_ = (y410.set (x5_1 : Int).toNat (⟨(⟨(rd_T63 y410 x5_1).f0.f0, (rd_T63 y410 x5_1).f0.f1, (rd_T63 y410 x5_1).f0.f2⟩ : S31), wrap64 ((wrap64 ((wrap64 (x1_1 + 1)) + 1)) + 1)⟩ : S63)) := ⟨_, rfl⟩
   replace H : (laws_markFlowS.l0 k1 y411 (wrap64 ((wrap64 ((wrap64 ((wrap64 (x1_1 + 1)) + 1)) + 1)) + 1)) (wrap64 (x5_1 + 1))) = some (r1, r2) := by first | (rw [hy411]; with_reducible exact H) | (have H2_ := (Option.bind_some _ _).symm.trans H; rw [hy411]; with_reducible exact H2_) | (have H2_ := (Option.bind_some _ _).symm.trans H; with_reducible exact H2_) | with_reducible exact H | (rw [hy411]; exact H) | exact H
   have Ny411 := Aside0.mk hy411
   clear hy411
   have H' := Aside0.mk H
   clear H
   obtain ⟨Ao9, co9, eo9⟩ := Kd.R_slice HO_0.out
   subst eo9
   have p5 : 0 ≤ (x5_1 : Int) := od_
   have q5 : (x5_1 : Int) < ((x0_1.length : Int) : Int) := od_
   obtain ⟨go5, co5, eo5, gb5, gl5, cl5, HG5⟩ := Kd.R_form HO_0.out (by omega)
   (first | cases eo5 | (injection eo5 with ea_ en_ ec_; (first | subst ea_ | (injection ea_ with ea_; subst ea_)); subst ec_; clear en_))
   have GB5 := Aside0.mk gb5
   have GG5 := Aside0.mk HG5
   clear gb5 gl5 HG5
   have HMgo5 := Aside0.mk (show (P0_ go5 ∨ w.heap.size ≤ go5) from (HO_0.out.1 _ rfl))
   obtain ⟨ce5, hcl5, hM5, hcc5, hfr5⟩ := Kd.R_elem HO_0.out z63 (x5_1 : Int) p5 q5
   obtain rfl := k63_openM hM5
   have hx5_0 : wr.cell? ⟨go5, (x5_1 : Int).toNat * 4, none⟩ = some (.int .i64 ((rd_T63 x0_1 x5_1).f0.f0)) := hcc5 0 _ rfl
   have hx5_1 : wr.cell? ⟨go5, (x5_1 : Int).toNat * 4 + 1, none⟩ = some (.int .i64 ((rd_T63 x0_1 x5_1).f0.f1)) := hcc5 1 _ rfl
   have hx5_2 : wr.cell? ⟨go5, (x5_1 : Int).toNat * 4 + 2, none⟩ = some (.int .i64 ((rd_T63 x0_1 x5_1).f0.f2)) := hcc5 2 _ rfl
   have hx5_3 : wr.cell? ⟨go5, (x5_1 : Int).toNat * 4 + 3, none⟩ = some (.int .i64 ((rd_T63 x0_1 x5_1).f1)) := hcc5 3 _ rfl
   have hf5_0 : wr.frozen? ⟨go5, (x5_1 : Int).toNat * 4, none⟩ = false := hfr5 0
   have hf5_1 : wr.frozen? ⟨go5, (x5_1 : Int).toNat * 4 + 1, none⟩ = false := hfr5 1
   have hf5_2 : wr.frozen? ⟨go5, (x5_1 : Int).toNat * 4 + 2, none⟩ = false := hfr5 2
   have hf5_3 : wr.frozen? ⟨go5, (x5_1 : Int).toNat * 4 + 3, none⟩ = false := hfr5 3
   clear hcl5 hcc5 hfr5 hM5
   replace p5 := eq_true p5
   replace q5 := eq_true q5
   have HX10 := Aside0.mk (show Kd.R k63 63 wr w0.heap.size (fun k_ => (P0_ k_ ∨ w.heap.size ≤ k_)) (.slice (some ⟨go5, 0, none⟩) x0_1.length co9) x0_1 from (ra_ HO_0.out))
   obtain ⟨ce10, hcl10, hM10, hcc10, hfr10⟩ := Kd.R_elem HX10.out z63 (x5_1 : Int) od_ (by have h_ : (x5_1 : Int) < ((x0_1.length : Int) : Int) := od_; first | exact h_ | (have e_ := (Kd.R_reads' HO_0.out).1; omega) | simpa using h_)
   obtain rfl := k63_openM hM10
   have HP10 := Kd.R_seg HX10.out (x5_1 : Int) od_ (by have h_ : (x5_1 : Int) < ((x0_1.length : Int) : Int) := od_; first | exact h_ | (have e_ := (Kd.R_reads' HO_0.out).1; omega) | simpa using h_) (seg := [.int .i64 x1_1]) (j := 0) hcl10 hcc10 (show 1 ≤ 4 from by decide) (x' := (⟨(⟨x1_1, (rd_T63 x0_1 x5_1).f0.f1, (rd_T63 x0_1 x5_1).f0.f2⟩ : S31), (rd_T63 x0_1 x5_1).f1⟩ : S63)) (k63_mkM _ _ _ (⟨(⟨x1_1, (rd_T63 x0_1 x5_1).f0.f1, (rd_T63 x0_1 x5_1).f0.f2⟩ : S31), (rd_T63 x0_1 x5_1).f1⟩ : S63) ) (fun _ hk => hk)
   have hx10_0 := hcc10 0 _ rfl
   (try simp only [show (k63).sz = 4 from rfl, Nat.mul_one, Nat.add_zero] at hx10_0)
   have hf10_0 := hfr10 0
   (try simp only [show (k63).sz = 4 from rfl, Nat.mul_one, Nat.add_zero] at hf10_0)
   clear hcl10 hcc10 hfr10 hM10
   go_wp2_with (first | ((with_reducible refine gate_store (t := 2) (p := 17) rfl ?_); refine store_event (t := 2) (p := 17) (v := ?vo_w11) (w1 := (wr.setCell ⟨go5, (x5_1 : Int).toNat * 4, none⟩ (.int .i64 x1_1))) ?hg ?ho ?hn ?hr ?_; (case ho => rfl); (case hg => rfl); (case hn => rfl); (case hr => first | (go_simp; done) | (go_simp; rfl)); intro w11 hw; have hg : wr.grownBy w11 (some go5) := (by rw [hw]; exact HP10.2); have hp_ : Kd.R k63 63 w11 w0.heap.size (fun k_ => (P0_ k_ ∨ w.heap.size ≤ k_)) (.slice (some ⟨go5, 0, none⟩) x0_1.length co9) y408 := (by rw [hw, Ny408.out]; exact HP10.1); clear HP10; replace HB := Aside0.mk ((by rw [hw]; exact below_set (HB.out) GB5.out : Below w0.heap.size w0 w11)); replace HK := Aside0.mk (Kept.of_grown (S := (fun k_ => P0_ k_)) hg (by repeat (first | (with_reducible first | exact HK.out | apply Kept.alloc | apply Kept.drewN | apply Kept.drew) | exact HK.out)) (fun k_ e_ => (HO_0.out.1 k_ e_))); replace HO_0 := Aside0.mk (hp_); clear hg hw hp_; have p6 : 0 ≤ (x5_1 : Int) := od_; have q6 : (x5_1 : Int) < ((x0_1.length : Int) : Int) := od_; obtain ⟨ce6, hcl6, hM6, hcc6, hfr6⟩ := Kd.R_elem HO_0.out z63 (x5_1 : Int) p6 q6; obtain rfl := k63_openM hM6; have hx6_0 : w11.cell? ⟨go5, (x5_1 : Int).toNat * 4, none⟩ = some (.int .i64 ((rd_T63 y408 x5_1).f0.f0)) := hcc6 0 _ rfl; have hx6_1 : w11.cell? ⟨go5, (x5_1 : Int).toNat * 4 + 1, none⟩ = some (.int .i64 ((rd_T63 y408 x5_1).f0.f1)) := hcc6 1 _ rfl; have hx6_2 : w11.cell? ⟨go5, (x5_1 : Int).toNat * 4 + 2, none⟩ = some (.int .i64 ((rd_T63 y408 x5_1).f0.f2)) := hcc6 2 _ rfl; have hx6_3 : w11.cell? ⟨go5, (x5_1 : Int).toNat * 4 + 3, none⟩ = some (.int .i64 ((rd_T63 y408 x5_1).f1)) := hcc6 3 _ rfl; have hf6_0 : w11.frozen? ⟨go5, (x5_1 : Int).toNat * 4, none⟩ = false := hfr6 0; have hf6_1 : w11.frozen? ⟨go5, (x5_1 : Int).toNat * 4 + 1, none⟩ = false := hfr6 1; have hf6_2 : w11.frozen? ⟨go5, (x5_1 : Int).toNat * 4 + 2, none⟩ = false := hfr6 2; have hf6_3 : w11.frozen? ⟨go5, (x5_1 : Int).toNat * 4 + 3, none⟩ = false := hfr6 3; clear hcl6 hcc6 hfr6 hM6; replace p6 := eq_true p6; replace q6 := eq_true q6; have HX12 := Aside0.mk (show Kd.R k63 63 w11 w0.heap.size (fun k_ => (P0_ k_ ∨ w.heap.size ≤ k_)) (.slice (some ⟨go5, 0, none⟩) x0_1.length co9) y408 from (ra_ HO_0.out)); obtain ⟨ce12, hcl12, hM12, hcc12, hfr12⟩ := Kd.R_elem HX12.out z63 (x5_1 : Int) od_ (by have h_ : (x5_1 : Int) < ((x0_1.length : Int) : Int) := od_; first | exact h_ | (have e_ := (Kd.R_reads' HO_0.out).1; omega) | simpa using h_); obtain rfl := k63_openM hM12; have HP12 := Kd.R_seg HX12.out (x5_1 : Int) od_ (by have h_ : (x5_1 : Int) < ((x0_1.length : Int) : Int) := od_; first | exact h_ | (have e_ := (Kd.R_reads' HO_0.out).1; omega) | simpa using h_) (seg := [.int .i64 (wrap64 (x1_1 + 1))]) (j := 1) hcl12 hcc12 (show 2 ≤ 4 from by decide) (x' := (⟨(⟨(rd_T63 y408 x5_1).f0.f0, wrap64 (x1_1 + 1), (rd_T63 y408 x5_1).f0.f2⟩ : S31), (rd_T63 y408 x5_1).f1⟩ : S63)) (k63_mkM _ _ _ (⟨(⟨(rd_T63 y408 x5_1).f0.f0, wrap64 (x1_1 + 1), (rd_T63 y408 x5_1).f0.f2⟩ : S31), (rd_T63 y408 x5_1).f1⟩ : S63) ) (fun _ hk => hk); have hx12_1 := hcc12 1 _ rfl; (try simp only [show (k63).sz = 4 from rfl, Nat.mul_one, Nat.add_zero] at hx12_1); have hf12_1 := hfr12 1; (try simp only [show (k63).sz = 4 from rfl, Nat.mul_one, Nat.add_zero] at hf12_1); clear hcl12 hcc12 hfr12 hM12) | ((with_reducible refine gate_store (t := 2) (p := 25) rfl ?_); refine store_event (t := 2) (p := 25) (v := ?vo_w13) (w1 := (w11.setCell ⟨go5, (x5_1 : Int).toNat * 4 + 1, none⟩ (.int .i64 (wrap64 (x1_1 + 1))))) ?hg ?ho ?hn ?hr ?_; (case ho => rfl); (case hg => rfl); (case hn => rfl); (case hr => first | (go_simp; done) | (go_simp; rfl)); intro w13 hw; have hg : w11.grownBy w13 (some go5) := (by rw [hw]; exact HP12.2); have hp_ : Kd.R k63 63 w13 w0.heap.size (fun k_ => (P0_ k_ ∨ w.heap.size ≤ k_)) (.slice (some ⟨go5, 0, none⟩) x0_1.length co9) y409 := (by rw [hw, Ny409.out]; exact HP12.1); clear HP12; replace HB := Aside0.mk ((by rw [hw]; exact below_set (HB.out) GB5.out : Below w0.heap.size w0 w13)); replace HK := Aside0.mk (Kept.of_grown (S := (fun k_ => P0_ k_)) hg (by repeat (first | (with_reducible first | exact HK.out | apply Kept.alloc | apply Kept.drewN | apply Kept.drew) | exact HK.out)) (fun k_ e_ => (HO_0.out.1 k_ e_))); replace HO_0 := Aside0.mk (hp_); clear hg hw hp_; have p7 : 0 ≤ (x5_1 : Int) := od_; have q7 : (x5_1 : Int) < ((x0_1.length : Int) : Int) := od_; obtain ⟨ce7, hcl7, hM7, hcc7, hfr7⟩ := Kd.R_elem HO_0.out z63 (x5_1 : Int) p7 q7; obtain rfl := k63_openM hM7; have hx7_0 : w13.cell? ⟨go5, (x5_1 : Int).toNat * 4, none⟩ = some (.int .i64 ((rd_T63 y409 x5_1).f0.f0)) := hcc7 0 _ rfl; have hx7_1 : w13.cell? ⟨go5, (x5_1 : Int).toNat * 4 + 1, none⟩ = some (.int .i64 ((rd_T63 y409 x5_1).f0.f1)) := hcc7 1 _ rfl; have hx7_2 : w13.cell? ⟨go5, (x5_1 : Int).toNat * 4 + 2, none⟩ = some (.int .i64 ((rd_T63 y409 x5_1).f0.f2)) := hcc7 2 _ rfl; have hx7_3 : w13.cell? ⟨go5, (x5_1 : Int).toNat * 4 + 3, none⟩ = some (.int .i64 ((rd_T63 y409 x5_1).f1)) := hcc7 3 _ rfl; have hf7_0 : w13.frozen? ⟨go5, (x5_1 : Int).toNat * 4, none⟩ = false := hfr7 0; have hf7_1 : w13.frozen? ⟨go5, (x5_1 : Int).toNat * 4 + 1, none⟩ = false := hfr7 1; have hf7_2 : w13.frozen? ⟨go5, (x5_1 : Int).toNat * 4 + 2, none⟩ = false := hfr7 2; have hf7_3 : w13.frozen? ⟨go5, (x5_1 : Int).toNat * 4 + 3, none⟩ = false := hfr7 3; clear hcl7 hcc7 hfr7 hM7; replace p7 := eq_true p7; replace q7 := eq_true q7; have HX14 := Aside0.mk (show Kd.R k63 63 w13 w0.heap.size (fun k_ => (P0_ k_ ∨ w.heap.size ≤ k_)) (.slice (some ⟨go5, 0, none⟩) x0_1.length co9) y409 from (ra_ HO_0.out)); obtain ⟨ce14, hcl14, hM14, hcc14, hfr14⟩ := Kd.R_elem HX14.out z63 (x5_1 : Int) od_ (by have h_ : (x5_1 : Int) < ((x0_1.length : Int) : Int) := od_; first | exact h_ | (have e_ := (Kd.R_reads' HO_0.out).1; omega) | simpa using h_); obtain rfl := k63_openM hM14; have HP14 := Kd.R_seg HX14.out (x5_1 : Int) od_ (by have h_ : (x5_1 : Int) < ((x0_1.length : Int) : Int) := od_; first | exact h_ | (have e_ := (Kd.R_reads' HO_0.out).1; omega) | simpa using h_) (seg := [.int .i64 (wrap64 ((wrap64 (x1_1 + 1)) + 1))]) (j := 2) hcl14 hcc14 (show 3 ≤ 4 from by decide) (x' := (⟨(⟨(rd_T63 y409 x5_1).f0.f0, (rd_T63 y409 x5_1).f0.f1, wrap64 ((wrap64 (x1_1 + 1)) + 1)⟩ : S31), (rd_T63 y409 x5_1).f1⟩ : S63)) (k63_mkM _ _ _ (⟨(⟨(rd_T63 y409 x5_1).f0.f0, (rd_T63 y409 x5_1).f0.f1, wrap64 ((wrap64 (x1_1 + 1)) + 1)⟩ : S31), (rd_T63 y409 x5_1).f1⟩ : S63) ) (fun _ hk => hk); have hx14_2 := hcc14 2 _ rfl; (try simp only [show (k63).sz = 4 from rfl, Nat.mul_one, Nat.add_zero] at hx14_2); have hf14_2 := hfr14 2; (try simp only [show (k63).sz = 4 from rfl, Nat.mul_one, Nat.add_zero] at hf14_2); clear hcl14 hcc14 hfr14 hM14) | ((with_reducible refine gate_store (t := 2) (p := 33) rfl ?_); refine store_event (t := 2) (p := 33) (v := ?vo_w15) (w1 := (w13.setCell ⟨go5, (x5_1 : Int).toNat * 4 + 2, none⟩ (.int .i64 (wrap64 ((wrap64 (x1_1 + 1)) + 1))))) ?hg ?ho ?hn ?hr ?_; (case ho => rfl); (case hg => rfl); (case hn => rfl); (case hr => first | (go_simp; done) | (go_simp; rfl)); intro w15 hw; have hg : w13.grownBy w15 (some go5) := (by rw [hw]; exact HP14.2); have hp_ : Kd.R k63 63 w15 w0.heap.size (fun k_ => (P0_ k_ ∨ w.heap.size ≤ k_)) (.slice (some ⟨go5, 0, none⟩) x0_1.length co9) y410 := (by rw [hw, Ny410.out]; exact HP14.1); clear HP14; replace HB := Aside0.mk ((by rw [hw]; exact below_set (HB.out) GB5.out : Below w0.heap.size w0 w15)); replace HK := Aside0.mk (Kept.of_grown (S := (fun k_ => P0_ k_)) hg (by repeat (first | (with_reducible first | exact HK.out | apply Kept.alloc | apply Kept.drewN | apply Kept.drew) | exact HK.out)) (fun k_ e_ => (HO_0.out.1 k_ e_))); replace HO_0 := Aside0.mk (hp_); clear hg hw hp_; have p8 : 0 ≤ (x5_1 : Int) := od_; have q8 : (x5_1 : Int) < ((x0_1.length : Int) : Int) := od_; obtain ⟨ce8, hcl8, hM8, hcc8, hfr8⟩ := Kd.R_elem HO_0.out z63 (x5_1 : Int) p8 q8; obtain rfl := k63_openM hM8; have hx8_0 : w15.cell? ⟨go5, (x5_1 : Int).toNat * 4, none⟩ = some (.int .i64 ((rd_T63 y410 x5_1).f0.f0)) := hcc8 0 _ rfl; have hx8_1 : w15.cell? ⟨go5, (x5_1 : Int).toNat * 4 + 1, none⟩ = some (.int .i64 ((rd_T63 y410 x5_1).f0.f1)) := hcc8 1 _ rfl; have hx8_2 : w15.cell? ⟨go5, (x5_1 : Int).toNat * 4 + 2, none⟩ = some (.int .i64 ((rd_T63 y410 x5_1).f0.f2)) := hcc8 2 _ rfl; have hx8_3 : w15.cell? ⟨go5, (x5_1 : Int).toNat * 4 + 3, none⟩ = some (.int .i64 ((rd_T63 y410 x5_1).f1)) := hcc8 3 _ rfl; have hf8_0 : w15.frozen? ⟨go5, (x5_1 : Int).toNat * 4, none⟩ = false := hfr8 0; have hf8_1 : w15.frozen? ⟨go5, (x5_1 : Int).toNat * 4 + 1, none⟩ = false := hfr8 1; have hf8_2 : w15.frozen? ⟨go5, (x5_1 : Int).toNat * 4 + 2, none⟩ = false := hfr8 2; have hf8_3 : w15.frozen? ⟨go5, (x5_1 : Int).toNat * 4 + 3, none⟩ = false := hfr8 3; clear hcl8 hcc8 hfr8 hM8; replace p8 := eq_true p8; replace q8 := eq_true q8; have HX16 := Aside0.mk (show Kd.R k63 63 w15 w0.heap.size (fun k_ => (P0_ k_ ∨ w.heap.size ≤ k_)) (.slice (some ⟨go5, 0, none⟩) x0_1.length co9) y410 from (ra_ HO_0.out)); obtain ⟨ce16, hcl16, hM16, hcc16, hfr16⟩ := Kd.R_elem HX16.out z63 (x5_1 : Int) od_ (by have h_ : (x5_1 : Int) < ((x0_1.length : Int) : Int) := od_; first | exact h_ | (have e_ := (Kd.R_reads' HO_0.out).1; omega) | simpa using h_); obtain rfl := k63_openM hM16; have HP16 := Kd.R_seg HX16.out (x5_1 : Int) od_ (by have h_ : (x5_1 : Int) < ((x0_1.length : Int) : Int) := od_; first | exact h_ | (have e_ := (Kd.R_reads' HO_0.out).1; omega) | simpa using h_) (seg := [.int .i64 (wrap64 ((wrap64 ((wrap64 (x1_1 + 1)) + 1)) + 1))]) (j := 3) hcl16 hcc16 (show 4 ≤ 4 from by decide) (x' := (⟨(⟨(rd_T63 y410 x5_1).f0.f0, (rd_T63 y410 x5_1).f0.f1, (rd_T63 y410 x5_1).f0.f2⟩ : S31), wrap64 ((wrap64 ((wrap64 (x1_1 + 1)) + 1)) + 1)⟩ : S63)) (k63_mkM _ _ _ (⟨(⟨(rd_T63 y410 x5_1).f0.f0, (rd_T63 y410 x5_1).f0.f1, (rd_T63 y410 x5_1).f0.f2⟩ : S31), wrap64 ((wrap64 ((wrap64 (x1_1 + 1)) + 1)) + 1)⟩ : S63) ) (fun _ hk => hk); have hx16_3 := hcc16 3 _ rfl; (try simp only [show (k63).sz = 4 from rfl, Nat.mul_one, Nat.add_zero] at hx16_3); have hf16_3 := hfr16 3; (try simp only [show (k63).sz = 4 from rfl, Nat.mul_one, Nat.add_zero] at hf16_3); clear hcl16 hcc16 hfr16 hM16) | ((with_reducible refine gate_store (t := 2) (p := 40) rfl ?_); refine store_event (t := 2) (p := 40) (v := ?vo_w17) (w1 := (w15.setCell ⟨go5, (x5_1 : Int).toNat * 4 + 3, none⟩ (.int .i64 (wrap64 ((wrap64 ((wrap64 (x1_1 + 1)) + 1)) + 1))))) ?hg ?ho ?hn ?hr ?_; (case ho => rfl); (case hg => rfl); (case hn => rfl); (case hr => first | (go_simp; done) | (go_simp; rfl)); intro w17 hw; have hg : w15.grownBy w17 (some go5) := (by rw [hw]; exact HP16.2); have hp_ : Kd.R k63 63 w17 w0.heap.size (fun k_ => (P0_ k_ ∨ w.heap.size ≤ k_)) (.slice (some ⟨go5, 0, none⟩) x0_1.length co9) y411 := (by rw [hw, Ny411.out]; exact HP16.1); clear HP16; replace HB := Aside0.mk ((by rw [hw]; exact below_set (HB.out) GB5.out : Below w0.heap.size w0 w17)); replace HK := Aside0.mk (Kept.of_grown (S := (fun k_ => P0_ k_)) hg (by repeat (first | (with_reducible first | exact HK.out | apply Kept.alloc | apply Kept.drewN | apply Kept.drew) | exact HK.out)) (fun k_ e_ => (HO_0.out.1 k_ e_))); replace HO_0 := Aside0.mk (hp_); clear hg hw hp_))
   go_roundg k1
   case measure => have := HK1.out; omega
   case rel => exact ⟨(y411), (wrap64 ((wrap64 ((wrap64 ((wrap64 (x1_1 + 1)) + 1)) + 1)) + 1)), (wrap64 (x5_1 + 1)), en_, en_, H', ⟨by have := HK1.out; omega⟩, ⟨by (with_reducible repeat (first | apply Kd.R_alloc | apply Kd.R_drewN | apply Kd.R_drew)); exact HO_0.out⟩, ⟨by repeat (first | (with_reducible first | exact HK.out | apply Kept.alloc | apply Kept.drewN | apply Kept.drew) | exact HK.out)⟩, bw_ HB⟩
  simp only [Option.some.injEq, Prod.mk.injEq] at H
  obtain ⟨rfl, rfl⟩ := H
  obtain ⟨Ao18, co18, eo18⟩ := Kd.R_slice HO_0.out
  subst eo18
  go_wp2
  go_ret
  exact ⟨es_, by (with_reducible repeat (first | apply Kd.R_alloc | apply Kd.R_drewN | apply Kd.R_drew)); exact HO_0.out, (bw_ HB).out, by repeat (first | (with_reducible first | exact HK.out | apply Kept.alloc | apply Kept.drewN | apply Kept.drew) | exact HK.out)⟩
/-! ### laws_heldFlowS: function 15 -/
def laws_heldFlowS.l0 : Nat → List (S63) → Int → Int → Option (Int)
 | 0, _, _, _ => none
 | k + 1, x0, x1, x5 => if x5 < (x0.length : Int) then (if 0 ≤ x5 then (if ((rd_T63 x0 x5).f0.f0) = x1 then (if ((rd_T63 x0 x5).f0.f1) = (wrap64 (x1 + 1)) then (if ((rd_T63 x0 x5).f0.f2) = (wrap64 ((wrap64 (x1 + 1)) + 1)) then (if ((rd_T63 x0 x5).f1) = (wrap64 ((wrap64 ((wrap64 (x1 + 1)) + 1)) + 1)) then (laws_heldFlowS.l0 k x0 (wrap64 ((wrap64 ((wrap64 ((wrap64 (x1 + 1)) + 1)) + 1)) + 1)) (wrap64 (x5 + 1))) else (some (-1))) else (some (-1))) else (some (-1))) else (some (-1))) else (none)) else (some x1)
def laws_heldFlowS.f (k : Nat) (l0 : List (S63)) (a1 : Int) : Option (Int) := laws_heldFlowS.l0 k l0 a1 0
theorem laws_heldFlowS.calls (k : Nat) (A0 : Option Addr) (c0 : Nat) (l0 : List (S63)) (a1 r : Int) (w : World) (hr0 : Kd.C k63 w A0 l0.length l0) (hc0 : l0.length ≤ c0) (h : laws_heldFlowS.f k l0 a1 = some r) :
  Calls Try.prog 15 #[.slice A0 l0.length c0, .int .i64 a1] w fun e w' => e = .returned (.int .i64 r) ∧ Drawn0 w w' := by
 have hu63 := Try.underlying63
 have hu31 := Try.underlying31
 have HR0 := Aside0.mk hr0
 have HC0 := Aside0.mk hc0
 clear hr0 hc0
 unfold laws_heldFlowS.f at h
 have H := h
 clear h
 have H' := Aside0.mk H
 clear H
 go_enter Try.func15, Try.ntmps15
 go_wp2
 go_loopg [1, 5] k (fun kq v1 v5 w' => ∃ (x1_1 : Int) (x5_1 : Int), v1 = .int .i64 x1_1 ∧ v5 = .int .i64 x5_1 ∧ Aside0 (laws_heldFlowS.l0 kq l0 x1_1 x5_1 = some r) ∧ Aside0 (kq ≤ k) ∧ Drawn0 w w')
 case atStart => exact ⟨(a1), (0), en_, en_, H', ⟨Nat.le_refl _⟩, de_⟩
 clear H'
 obtain ⟨x1_1, x5_1, rfl, rfl, HA, HK1, ⟨m1, rfl⟩⟩ := hrel
 cases gk with
 | zero => exact absurd HA.out (by simp [laws_heldFlowS.l0])
 | succ k1 =>
  have H := HA.out
  clear HA
  simp only [laws_heldFlowS.l0] at H
  replace H := il_ H
  rcases H with ⟨c3b0, H⟩ | ⟨c3b0, H⟩
  ·replace H := imn_ H
   obtain ⟨c4b0, H⟩ := H
   replace H := ie_ H
   rcases H with ⟨c5b0, c5b1, H⟩ | ⟨c5, c5b0, c5b1, H⟩
   ·replace H := ie_ H
    rcases H with ⟨c6b0, c6b1, H⟩ | ⟨c6, c6b0, c6b1, H⟩
    ·replace H := ie_ H
     rcases H with ⟨c7b0, c7b1, H⟩ | ⟨c7, c7b0, c7b1, H⟩
     ·replace H := ie_ H
      rcases H with ⟨c8b0, c8b1, H⟩ | ⟨c8, c8b0, c8b1, H⟩
      ·have H' := Aside0.mk H
       clear H
       have p412 : 0 ≤ (x5_1 : Int) := od_
       have q412 : x5_1 < (l0.length : Int) := od_
       obtain ⟨ad412, e412, hx412_0, hx412_1, hx412_2, hx412_3⟩ := at_T63 HR0.out x5_1 p412 q412
       cases e412
       replace p412 := eq_true p412
       replace q412 := eq_true q412
       have p413 : 0 ≤ (x5_1 : Int) := od_
       have q413 : x5_1 < (l0.length : Int) := od_
       obtain ⟨ad413, e413, hx413_0, hx413_1, hx413_2, hx413_3⟩ := at_T63 HR0.out x5_1 p413 q413
       obtain rfl : ad412 = ad413 := (by injection e413)
       replace p413 := eq_true p413
       replace q413 := eq_true q413
       have p414 : 0 ≤ (x5_1 : Int) := od_
       have q414 : x5_1 < (l0.length : Int) := od_
       obtain ⟨ad414, e414, hx414_0, hx414_1, hx414_2, hx414_3⟩ := at_T63 HR0.out x5_1 p414 q414
       obtain rfl : ad412 = ad414 := (by injection e414)
       replace p414 := eq_true p414
       replace q414 := eq_true q414
       have p415 : 0 ≤ (x5_1 : Int) := od_
       have q415 : x5_1 < (l0.length : Int) := od_
       obtain ⟨ad415, e415, hx415_0, hx415_1, hx415_2, hx415_3⟩ := at_T63 HR0.out x5_1 p415 q415
       obtain rfl : ad412 = ad415 := (by injection e415)
       replace p415 := eq_true p415
       replace q415 := eq_true q415
       go_wp2
       go_roundg k1
       case measure => have := HK1.out; omega
       case rel => exact ⟨(wrap64 ((wrap64 ((wrap64 ((wrap64 (x1_1 + 1)) + 1)) + 1)) + 1)), (wrap64 (x5_1 + 1)), en_, en_, H', ⟨by have := HK1.out; omega⟩, de_⟩
      obtain rfl := si_ H
      have p412 : 0 ≤ (x5_1 : Int) := od_
      have q412 : x5_1 < (l0.length : Int) := od_
      obtain ⟨ad412, e412, hx412_0, hx412_1, hx412_2, hx412_3⟩ := at_T63 HR0.out x5_1 p412 q412
      cases e412
      replace p412 := eq_true p412
      replace q412 := eq_true q412
      have p413 : 0 ≤ (x5_1 : Int) := od_
      have q413 : x5_1 < (l0.length : Int) := od_
      obtain ⟨ad413, e413, hx413_0, hx413_1, hx413_2, hx413_3⟩ := at_T63 HR0.out x5_1 p413 q413
      obtain rfl : ad412 = ad413 := (by injection e413)
      replace p413 := eq_true p413
      replace q413 := eq_true q413
      have p414 : 0 ≤ (x5_1 : Int) := od_
      have q414 : x5_1 < (l0.length : Int) := od_
      obtain ⟨ad414, e414, hx414_0, hx414_1, hx414_2, hx414_3⟩ := at_T63 HR0.out x5_1 p414 q414
      obtain rfl : ad412 = ad414 := (by injection e414)
      replace p414 := eq_true p414
      replace q414 := eq_true q414
      have p415 : 0 ≤ (x5_1 : Int) := od_
      have q415 : x5_1 < (l0.length : Int) := od_
      obtain ⟨ad415, e415, hx415_0, hx415_1, hx415_2, hx415_3⟩ := at_T63 HR0.out x5_1 p415 q415
      obtain rfl : ad412 = ad415 := (by injection e415)
      replace p415 := eq_true p415
      replace q415 := eq_true q415
      go_wp2
      go_ret
      exact ⟨en_, de_⟩
     obtain rfl := si_ H
     have p412 : 0 ≤ (x5_1 : Int) := od_
     have q412 : x5_1 < (l0.length : Int) := od_
     obtain ⟨ad412, e412, hx412_0, hx412_1, hx412_2, hx412_3⟩ := at_T63 HR0.out x5_1 p412 q412
     cases e412
     replace p412 := eq_true p412
     replace q412 := eq_true q412
     have p413 : 0 ≤ (x5_1 : Int) := od_
     have q413 : x5_1 < (l0.length : Int) := od_
     obtain ⟨ad413, e413, hx413_0, hx413_1, hx413_2, hx413_3⟩ := at_T63 HR0.out x5_1 p413 q413
     obtain rfl : ad412 = ad413 := (by injection e413)
     replace p413 := eq_true p413
     replace q413 := eq_true q413
     have p414 : 0 ≤ (x5_1 : Int) := od_
     have q414 : x5_1 < (l0.length : Int) := od_
     obtain ⟨ad414, e414, hx414_0, hx414_1, hx414_2, hx414_3⟩ := at_T63 HR0.out x5_1 p414 q414
     obtain rfl : ad412 = ad414 := (by injection e414)
     replace p414 := eq_true p414
     replace q414 := eq_true q414
     go_wp2
     go_ret
     exact ⟨en_, de_⟩
    obtain rfl := si_ H
    have p412 : 0 ≤ (x5_1 : Int) := od_
    have q412 : x5_1 < (l0.length : Int) := od_
    obtain ⟨ad412, e412, hx412_0, hx412_1, hx412_2, hx412_3⟩ := at_T63 HR0.out x5_1 p412 q412
    cases e412
    replace p412 := eq_true p412
    replace q412 := eq_true q412
    have p413 : 0 ≤ (x5_1 : Int) := od_
    have q413 : x5_1 < (l0.length : Int) := od_
    obtain ⟨ad413, e413, hx413_0, hx413_1, hx413_2, hx413_3⟩ := at_T63 HR0.out x5_1 p413 q413
    obtain rfl : ad412 = ad413 := (by injection e413)
    replace p413 := eq_true p413
    replace q413 := eq_true q413
    go_wp2
    go_ret
    exact ⟨en_, de_⟩
   obtain rfl := si_ H
   have p412 : 0 ≤ (x5_1 : Int) := od_
   have q412 : x5_1 < (l0.length : Int) := od_
   obtain ⟨ad412, e412, hx412_0, hx412_1, hx412_2, hx412_3⟩ := at_T63 HR0.out x5_1 p412 q412
   cases e412
   replace p412 := eq_true p412
   replace q412 := eq_true q412
   go_wp2
   go_ret
   exact ⟨en_, de_⟩
  obtain rfl := si_ H
  go_wp2
  go_ret
  exact ⟨en_, de_⟩
end Go.Proofs.Ytdfcoebadjhjlaa.QF
