import Derived.Test.YtdfcoebadjhjlaaQGx6
import Derived.Test.YtdfcoebadjhjlaaQGx39
import Derived.Ground.SlgfProg
import Derived.Shelf.SlGeneric
import Derived.Shelf.SlicesQ.IndexFunc
import Derived.Ground.SlgnProg
import Derived.Shelf.SlicesE.Clone
namespace Go.Proofs.Ytdfcoebadjhjlaa.QG
set_option maxHeartbeats 8000000
set_option maxRecDepth 100000
open Go.RowKit Go.Proofs.YtdfcoebadjhjlaaW.PrintWords Go.Proofs.YtdfcoebadjhjlaaW.PrintLast Go.Proofs.YtdfcoebadjhjlaaW.PrintMore
attribute [local go_sem] isSome_setCell max2_int min2_int max_two min_two max_three min_three max_four min_four
set_option linter.unusedVariables false
set_option linter.unusedSimpArgs false

attribute [local go_sem high] eqA31
/-! ### impl_inPiece: function 46 -/
def contains78_ren : Go.Shelf.Ren := ⟨fun | 8 => 78 | 6 => 76 | n => n, fun | 22 => 32 | 23 => 72 | 25 => 81 | 4 => 4 | 3 => 3 | 0 => 0 | n => n, fun | n => n⟩
theorem contains78 : Go.Proofs.SlLaysH0.n8 Try.prog contains78_ren := {
  mixed := by kernel_rfl
  f6 := ⟨Try.f76.name, by decide, Try.func76.trans (congrArg some (by kernel_rfl))⟩
  f8 := ⟨Try.f78.name, by decide, Try.func78.trans (congrArg some (by kernel_rfl))⟩
  t0 := Try.underlying0
  a0 := Try.isAgg0
  z0 := Try.sizeOf0
  v0 := Try.zeroValue0
  t3 := Try.underlying3
  a3 := Try.isAgg3
  z3 := Try.sizeOf3
  v3 := Try.zeroValue3
  t4 := Try.underlying4
  a4 := Try.isAgg4
  z4 := Try.sizeOf4
  v4 := Try.zeroValue4
  t22 := Try.underlying32
  a22 := Try.isAgg32
  z22 := Try.sizeOf32
  v22 := Try.zeroValue32
  t25 := Try.underlying81
  a25 := Try.isAgg81
  z25 := Try.sizeOf81
  v25 := Try.zeroValue81 }
theorem impl_inPiece.one (k : Nat) (a0 b0 b1 b2 : Int) (x : S72) (t : Bool) (ht : impl_holds.f k a0 x.f0.f0 x.f0.f1 x.f0.f2 b0 b1 b2 = some t) (Bb Bp : Nat) (w : World) (h0 : w.cell? ⟨Bb, 0, none⟩ = some (.int .i64 b0)) (h1 : w.cell? ⟨Bb, 1, none⟩ = some (.int .i64 b1)) (h2 : w.cell? ⟨Bb, 2, none⟩ = some (.int .i64 b2)) (hp : w.cell? ⟨Bp, 0, none⟩ = some (.int .i64 a0)) (hb : Bb < w.heap.size) (hq : Bp < w.heap.size) :
  Calls Try.prog 79 #[.agg #[.int .i64 x.f0.f0, .int .i64 x.f0.f1, .int .i64 x.f0.f2, .int .i64 x.f1], .pointer (some ⟨Bb, 0, none⟩), .pointer (some ⟨Bp, 0, none⟩)] w fun e w' => e = .returned (.bool (!(x.f0.f0 == b0 && (x.f0.f1 == b1 && (x.f0.f2 == b2))) && t)) ∧ Below w.heap.size w w' := by
 have hcon := fun W' => impl_holds.calls k a0 x.f0.f0 x.f0.f1 x.f0.f2 b0 b1 b2 t W' ht
 have hne : Bb ≠ w.heap.size := by omega
 have hnp : Bp ≠ w.heap.size := by omega
 go_enter Try.func79, Try.ntmps79
 go_wp2_with (go_at_call 51; refine (hcon _).mono ?_; rintro e w' ⟨rfl, hb'⟩)
 ·go_ret
  refine ⟨?_, (Below.refl _ w).trans ?_⟩
  ·cases x.f0.f0 == b0 <;> cases x.f0.f1 == b1 <;> cases x.f0.f2 == b2 <;> rfl
  exact ((Below.refl _ w).alloc (Nat.le_refl _) _).trans (hb'.mono (by simp))
 rename_i hh
 have e0 : x.f0.f0 = b0 := Classical.byContradiction fun h => hh (.inl h)
 have e1 : x.f0.f1 = b1 := Classical.byContradiction fun h => hh (.inr (.inl h))
 have e2 : x.f0.f2 = b2 := Classical.byContradiction fun h => hh (.inr (.inr h))
 go_ret
 refine ⟨?_, (Below.refl _ w).alloc (Nat.le_refl _) _⟩
 rw [e0, e1, e2]; simp
theorem cell_new_ (w : World) (cs : Array Value) (t : TypeId) (n : Nat) (h : n = w.heap.size) (i : Nat) : (w.alloc (.cells cs t)).cell? ⟨n, i, none⟩ = cs[i]? := by
 subst h
 unfold World.cell? World.alloc
 simp
def impl_inPiece.enc (x : S72) : List Value := [.int .i64 x.f0.f0, .int .i64 x.f0.f1, .int .i64 x.f0.f2, .int .i64 x.f1]
def impl_inPiece.p (k : Nat) (a0 a2_0 a2_1 a2_2 : Int) (x : S72) : Bool := !(x.f0.f0 == a2_0 && (x.f0.f1 == a2_1 && (x.f0.f2 == a2_2))) && (impl_holds.f k a0 x.f0.f0 x.f0.f1 x.f0.f2 a2_0 a2_1 a2_2).getD false
def impl_inPiece.f (k : Nat) (a0 a1_0 a1_1 a1_2 : Int) (l1_3 : List (S72)) (a2_0 a2_1 a2_2 : Int) : Option (Bool) :=
 if 0 < l1_3.length ∧ (l1_3.all fun x => (impl_holds.f k a0 x.f0.f0 x.f0.f1 x.f0.f2 a2_0 a2_1 a2_2).isSome) = true then some (l1_3.any (impl_inPiece.p k a0 a2_0 a2_1 a2_2)) else none
theorem impl_inPiece.scan (k : Nat) (a0 : Int) (b off c1_3 : Nat) (l1_3 : List (S72)) (a2_0 a2_1 a2_2 : Int) (w w3 : World) (hr1_3 : Kd.C k72 w (some ⟨b, off, none⟩) l1_3.length l1_3) (hl0 : 0 < l1_3.length)
  (hall' : ∀ x ∈ l1_3, (impl_holds.f k a0 x.f0.f0 x.f0.f1 x.f0.f2 a2_0 a2_1 a2_2).isSome = true) (hB3 : Below w.heap.size w w3) (s3 : w3.heap.size = w.heap.size + 3)
  (h0 : w3.cell? ⟨w.heap.size + 2, 0, none⟩ = some (.int .i64 a2_0)) (h1 : w3.cell? ⟨w.heap.size + 2, 1, none⟩ = some (.int .i64 a2_1)) (h2 : w3.cell? ⟨w.heap.size + 2, 2, none⟩ = some (.int .i64 a2_2)) (hp : w3.cell? ⟨w.heap.size, 0, none⟩ = some (.int .i64 a0)) :
  Calls Try.prog 78 #[.slice (some ⟨b, off, none⟩) l1_3.length c1_3, .func (.func 79) #[] #[.pointer (some ⟨w.heap.size + 2, 0, none⟩), .pointer (some ⟨w.heap.size, 0, none⟩)]] w3 fun e w' => e = .returned (.bool (l1_3.any (impl_inPiece.p k a0 a2_0 a2_1 a2_2))) ∧ Below w3.heap.size w3 w' := by
 have hadd : ∀ j, (⟨b, off, none⟩ : Addr).add j = ⟨b, off + j, none⟩ := fun j => by unfold Addr.add; split <;> simp_all
 have hcells : ∀ (j : Nat), j < l1_3.length → ∀ i v, (impl_inPiece.enc (l1_3.getD j z72))[i]? = some v → w.cell? ⟨b, off + (j * 4 + i), none⟩ = some v := by
  intro j hj i v hi
  obtain ⟨ad', cj, he, hcj, hKj, hccj⟩ := Kd.C_get hr1_3 z72 (j : Int) (by omega) (by omega)
  injection he with he
  subst he
  obtain rfl := k72_open hKj
  rw [← hadd]
  exact hccj i v hi
 have hbw : b < w.heap.size := by
  have h1 := hcells 0 hl0 0 _ rfl
  unfold World.cell? at h1
  split at h1
  ·rename_i h2; exact (Array.getElem?_eq_some_iff.1 h2).1
  simp at h1
 haveI : Inhabited { x : S72 // (impl_holds.f k a0 x.f0.f0 x.f0.f1 x.f0.f2 a2_0 a2_1 a2_2).isSome = true } := ⟨⟨l1_3[0], hall' _ (List.getElem_mem hl0)⟩⟩
 obtain ⟨zs, hzs⟩ : ∃ zs : List { x : S72 // (impl_holds.f k a0 x.f0.f0 x.f0.f1 x.f0.f2 a2_0 a2_1 a2_2).isSome = true }, zs = l1_3.pmap Subtype.mk hall' := ⟨_, rfl⟩
 have hzl : zs.length = l1_3.length := by rw [hzs]; exact List.length_pmap
 have hzg : ∀ j, j < l1_3.length → (zs[j]!).1 = l1_3.getD j z72 := fun j hj => by
  rw [getElem!_pos zs j (by omega), List.getD_eq_getElem?_getD, List.getElem?_eq_getElem hj]
  simp [hzs]
 have hany : (zs.take l1_3.length).any (fun x => impl_inPiece.p k a0 a2_0 a2_1 a2_2 x.1) = l1_3.any (impl_inPiece.p k a0 a2_0 a2_1 a2_2) := by
  rw [List.take_of_length_le (by omega), hzs]
  rw [Bool.eq_iff_iff, List.any_eq_true, List.any_eq_true]
  constructor
  ·rintro ⟨x, hx, hpx⟩
   obtain ⟨y, hy, rfl⟩ := List.mem_pmap.1 hx
   exact ⟨y, hy, hpx⟩
  rintro ⟨y, hy, hpy⟩
  exact ⟨⟨y, hall' y hy⟩, List.mem_pmap.2 ⟨y, hy, rfl⟩, hpy⟩
 rw [← hany]
 refine AnyQ.slices_ContainsFunc (P := Try.prog) contains78 4 Try.isAgg72 Try.sizeOf72 (fun x : { x : S72 // (impl_holds.f k a0 x.f0.f0 x.f0.f1 x.f0.f2 a2_0 a2_1 a2_2).isSome = true } => impl_inPiece.enc x.1) (fun _ => rfl) (fun x => impl_inPiece.p k a0 a2_0 a2_1 a2_2 x.1) 79 #[.pointer (some ⟨w.heap.size + 2, 0, none⟩), .pointer (some ⟨w.heap.size, 0, none⟩)] (enters_of Try.func79 (by kernel_rfl) rfl) b off l1_3.length c1_3 zs w3
  (fun W x hW => ?_) (by omega) (by have := hr1_3.2.1; omega) (Nat.lt_of_lt_of_le hbw hB3.size) (fun j hj i v hi => ?_)
 ·obtain ⟨t, ht⟩ := Option.isSome_iff_exists.1 x.2
  have hp' : impl_inPiece.p k a0 a2_0 a2_1 a2_2 x.1 = (!(x.1.f0.f0 == a2_0 && (x.1.f0.f1 == a2_1 && (x.1.f0.f2 == a2_2))) && t) := by unfold impl_inPiece.p; rw [ht]; rfl
  have cell : ∀ (q i : Nat) (v : Value), q < w.heap.size + 3 → w3.cell? ⟨q, i, none⟩ = some v → W.cell? ⟨q, i, none⟩ = some v := fun q i v hq h => (hW.cell (p := ⟨q, i, none⟩) (by rw [s3]; exact hq)).trans h
  have e : ∀ y : Value, (#[y] ++ #[.pointer (some ⟨w.heap.size + 2, 0, none⟩), .pointer (some ⟨w.heap.size, 0, none⟩)] : Array Value) = #[y, .pointer (some ⟨w.heap.size + 2, 0, none⟩), .pointer (some ⟨w.heap.size, 0, none⟩)] := fun _ => by simp
  have h := impl_inPiece.one k a0 a2_0 a2_1 a2_2 x.1 t ht (w.heap.size + 2) w.heap.size W (cell _ _ _ (by omega) h0) (cell _ _ _ (by omega) h1) (cell _ _ _ (by omega) h2) (cell _ _ _ (by omega) hp) (by have := hW.size; omega) (by have := hW.size; omega)
  rw [← hp', ← e] at h
  refine h.mono ?_
  rintro e w' ⟨rfl, hb'⟩
  exact ⟨rfl, hW.trans (hb'.mono hW.size)⟩
 rw [hzl] at hj
 have h1 := hcells j hj i v (by rw [← hzg j hj]; exact hi)
 rw [Nat.add_assoc]
 exact (hB3.cell (p := ⟨b, off + (j * 4 + i), none⟩) hbw).trans h1
theorem impl_inPiece.calls (k : Nat) (a0 a1_0 a1_1 a1_2 : Int) (A1_3 : Option Addr) (c1_3 : Nat) (l1_3 : List (S72)) (a2_0 a2_1 a2_2 : Int) (r : Bool) (w : World) (hr1_3 : Kd.C k72 w A1_3 l1_3.length l1_3) (hc1_3 : l1_3.length ≤ c1_3) (h : impl_inPiece.f k a0 a1_0 a1_1 a1_2 l1_3 a2_0 a2_1 a2_2 = some r) :
  Calls Try.prog 46 #[.int .i64 a0, .agg #[.int .i64 a1_0, .int .i64 a1_1, .int .i64 a1_2, .slice A1_3 l1_3.length c1_3], .agg #[.int .i64 a2_0, .int .i64 a2_1, .int .i64 a2_2]] w fun e w' => e = .returned (.bool r) ∧ Below w.heap.size w w' := by
 unfold impl_inPiece.f at h
 have hl : 0 < l1_3.length ∧ (l1_3.all fun x => (impl_holds.f k a0 x.f0.f0 x.f0.f1 x.f0.f2 a2_0 a2_1 a2_2).isSome) = true := Classical.byContradiction fun hn => by rw [if_neg hn] at h; cases h
 rw [if_pos hl] at h
 have hr := Option.some.inj h
 clear h
 obtain ⟨hl0, hall⟩ := hl
 rw [List.all_eq_true] at hall
 obtain ⟨ad, ca, rfl, hca, hKa, hcc⟩ := Kd.C_get hr1_3 z72 0 (by omega) (by omega)
 obtain ⟨b, off, sp⟩ := ad
 have hsp : sp = none := by
  cases sp with
  | none => rfl
  | some s_ =>
   obtain rfl := k72_open hKa
   have h1 := hcc 0 _ rfl
   simp only [Int.toNat_zero, Nat.zero_mul, Nat.zero_add, Nat.add_zero, Addr.add, if_true] at h1
   unfold World.cell? at h1
   split at h1 <;> simp at h1
 subst hsp
 clear hcc hKa hca
 have hcon := fun w3 h1 h2 h3 h4 h5 h6 => impl_inPiece.scan k a0 b off c1_3 l1_3 a2_0 a2_1 a2_2 w w3 hr1_3 hl0 hall h1 h2 h3 h4 h5 h6
 rw [hr] at hcon
 clear hall hr hr1_3
 go_enter Try.func46, Try.ntmps46
 go_wp2_with (go_at_call 78; refine (hcon _ ((((Below.refl _ w).alloc (Nat.le_refl _) _).alloc (by simp) _).alloc (by simp; omega) _) (by simp) ((cell_new_ _ _ _ _ (by simp) 0).trans rfl) ((cell_new_ _ _ _ _ (by simp) 1).trans rfl) ((cell_new_ _ _ _ _ (by simp) 2).trans rfl) (Lib.cell?_alloc_some _ (Lib.cell?_alloc_some _ ((cell_new_ _ _ _ _ rfl 0).trans rfl)))).mono ?_; rintro e w' ⟨rfl, hb'⟩)
 go_ret
 exact ⟨rfl, ((((Below.refl _ w).alloc (Nat.le_refl _) _).alloc (by simp) _).alloc (by simp; omega) _).trans (hb'.mono (by simp; omega))⟩
/-! ### impl_total: function 47 -/
def impl_total.l0 : Nat → Int → Int → Bool → List (S72) → Int → Int → Int → Int → Int → Option (Int × Bool)
 | 0, _, _, _, _, _, _, _, _, _ => none
 | k + 1, x0, x8, x9, x13, x14, x15, x358000, x358001, x358002 => if x15 < x14 then (if 0 ≤ x15 then (if x15 < (x13.length : Int) then ((impl_holds.f k x0 x358000 x358001 x358002 ((rd_T72 x13 x15).f0.f0) ((rd_T72 x13 x15).f0.f1) ((rd_T72 x13 x15).f0.f2)).bind fun t360 => (if t360 = true then (if x9 = true then ((impl_isWeight.f k (([wrap64 (x8 + ((rd_T72 x13 x15).f1))] : List Int))).bind fun t364 => (impl_total.l0 k x0 (wrap64 (x8 + ((rd_T72 x13 x15).f1))) t364 x13 x14 (wrap64 (x15 + 1)) x358000 x358001 x358002)) else (impl_total.l0 k x0 (wrap64 (x8 + ((rd_T72 x13 x15).f1))) false x13 x14 (wrap64 (x15 + 1)) x358000 x358001 x358002)) else (impl_total.l0 k x0 x8 x9 x13 x14 (wrap64 (x15 + 1)) x358000 x358001 x358002))) else (none)) else (none)) else (some (x8, x9))
def impl_total.f (k : Nat) (a0 a1_0 a1_1 a1_2 : Int) (l1_3 : List (S72)) (a2_0 a2_1 a2_2 : Int) : Option (Int × Bool) := impl_total.l0 k a0 0 true l1_3 (l1_3.length : Int) 0 a2_0 a2_1 a2_2
theorem impl_total.calls (k : Nat) (a0 a1_0 a1_1 a1_2 : Int) (A1_3 : Option Addr) (c1_3 : Nat) (l1_3 : List (S72)) (a2_0 a2_1 a2_2 r1 : Int) (r2 : Bool) (w : World) (hr1_3 : Kd.C k72 w A1_3 l1_3.length l1_3) (hc1_3 : l1_3.length ≤ c1_3) (h : impl_total.f k a0 a1_0 a1_1 a1_2 l1_3 a2_0 a2_1 a2_2 = some (r1, r2)) :
  Calls Try.prog 47 #[.int .i64 a0, .agg #[.int .i64 a1_0, .int .i64 a1_1, .int .i64 a1_2, .slice A1_3 l1_3.length c1_3], .agg #[.int .i64 a2_0, .int .i64 a2_1, .int .i64 a2_2]] w fun e w' => e = .returned (.tuple #[.int .i64 r1, .bool r2]) ∧ Below w.heap.size w w' := by
 have hu34 := Try.underlying34
 have hu31 := Try.underlying31
 have hu72 := Try.underlying72
 have HR1_3 := Aside0.mk hr1_3
 have HC1_3 := Aside0.mk hc1_3
 clear hr1_3 hc1_3
 have HB := Aside0.mk (Below.refl w.heap.size w)
 unfold impl_total.f at h
 have H := h
 clear h
 have H' := Aside0.mk H
 clear H
 go_enter Try.func47, Try.ntmps47
 go_wp2_with (first | ((refine gd_ 4 ?_); (try (refine gate_guard (by rfl) ?_; dsimp only)); refine by_ 4 #[.int .i64 a1_0, .int .i64 a1_1, .int .i64 a1_2, .slice A1_3 l1_3.length c1_3] 34 HB ?_; intro gb356 hg w4 BK356 hb GW356 HB_; replace HB := HB_; clear hb hg) | ((refine gd_ 5 ?_); (try (refine gate_guard (by rfl) ?_; dsimp only)); refine by_ 5 #[.int .i64 a2_0, .int .i64 a2_1, .int .i64 a2_2] 31 HB ?_; intro gb357 hg w5 BK357 hb GW357 HB_; have NB356_357 := bm_ BK356 hg; have NB357_356 := bn_ BK356 hg; replace BK356 := bb_ BK356 hb; replace HB := HB_; clear hb hg; have hnb6 := NB356_357.out; have hnc6 := NB357_356.out; obtain ⟨hcz7_0, hcz7_1, hcz7_2, hcz7_3, hfz7_0, hfz7_1, hfz7_2, hfz7_3⟩ := ch4_ BK356))
 go_loopg [8, 9, 15] k (fun kq v8 v9 v15 w' => ∃ (x8_1 : Int) (x9_1 : Bool) (x15_1 : Int), v8 = .int .i64 x8_1 ∧ v9 = .bool x9_1 ∧ v15 = .int .i64 x15_1 ∧ Aside0 (impl_total.l0 kq a0 x8_1 x9_1 l1_3 (l1_3.length : Int) x15_1 a2_0 a2_1 a2_2 = some (r1, r2)) ∧ Aside0 (kq ≤ k) ∧ Aside0 (w'.heap[gb356]? = some (.cells #[.int .i64 a1_0, .int .i64 a1_1, .int .i64 a1_2, (.slice A1_3 l1_3.length c1_3)] 34 (0, 0))) ∧ Aside0 (w'.heap[gb357]? = some (.cells #[.int .i64 a2_0, .int .i64 a2_1, .int .i64 a2_2] 31 (0, 0))) ∧ Aside0 (Below w.heap.size w w'))
 case atStart => exact ⟨(0), (true), (0), en_, en_, en_, H', ⟨Nat.le_refl _⟩, bl_ BK356, bl_ BK357, bw_ HB⟩
 clear H'
 try clear hcz7_0 hcz7_1 hcz7_2 hcz7_3
 try clear hfz7_0 hfz7_1 hfz7_2 hfz7_3
 obtain ⟨x8_1, x9_1, x15_1, rfl, rfl, rfl, HA, HK1, BK356, BK357, HB⟩ := hrel
 cases gk with
 | zero => exact absurd HA.out (by simp [impl_total.l0])
 | succ k1 =>
  have H := HA.out
  clear HA
  simp only [impl_total.l0] at H
  replace H := il_ H
  rcases H with ⟨c8b0, H⟩ | ⟨c8b0, H⟩
  ·replace H := imn_ H
   obtain ⟨c9b0, H⟩ := H
   replace H := iln_ H
   obtain ⟨c10b0, H⟩ := H
   replace H := oc_ H
   obtain ⟨t360, A11, H⟩ := H
   replace H := ib_ H
   rcases H with ⟨rfl, H⟩ | ⟨rfl, H⟩
   ·replace H := ib_ H
    rcases H with ⟨rfl, H⟩ | ⟨rfl, H⟩
    ·obtain ⟨y361, hy361⟩ : ∃ y_ : List Int, y_ = (([wrap64 (x8_1 + ((rd_T72 l1_3 x15_1).f1))] : List Int)) := ⟨_, rfl⟩
     replace H : ((impl_isWeight.f k1 y361).bind fun t364 => (impl_total.l0 k1 a0 (wrap64 (x8_1 + ((rd_T72 l1_3 x15_1).f1))) t364 l1_3 (l1_3.length : Int) (wrap64 (x15_1 + 1)) a2_0 a2_1 a2_2)) = some (r1, r2) := by first | (rw [hy361]; with_reducible exact H) | (have H2_ := (Option.bind_some _ _).symm.trans H; rw [hy361]; with_reducible exact H2_) | (have H2_ := (Option.bind_some _ _).symm.trans H; with_reducible exact H2_) | with_reducible exact H | (rw [hy361]; exact H) | exact H
     have Ny361 := Aside0.mk hy361
     clear hy361
     replace H := oc_ H
     obtain ⟨t364, A14, H⟩ := H
     have H' := Aside0.mk H
     clear H
     have p358 : 0 ≤ (x15_1 : Int) := od_
     have q358 : x15_1 < (l1_3.length : Int) := od_
     obtain ⟨ad358, e358, hx358_0, hx358_1, hx358_2, hx358_3⟩ := at_T72 HR1_3.out x15_1 p358 q358
     cases e358
     replace hx358_0 := clTr HB.out hx358_0
     replace hx358_1 := clTr HB.out hx358_1
     replace hx358_2 := clTr HB.out hx358_2
     replace hx358_3 := clTr HB.out hx358_3
     replace p358 := eq_true p358
     replace q358 := eq_true q358
     go_wp2_with (first | ((refine gd_ 11 ?_); (try (refine gate_guard (by rfl) ?_; dsimp only)); refine by_ 11 #[.int .i64 0, .int .i64 0, .int .i64 0, .int .i64 0] 72 HB ?_; intro gb359 hg w15 BK359 hb GW359 HB_; have NB356_359 := bm_ BK356 hg; have NB359_356 := bn_ BK356 hg; have NB357_359 := bm_ BK357 hg; have NB359_357 := bn_ BK357 hg; replace BK356 := bb_ BK356 hb; replace BK357 := bb_ BK357 hb; replace HB := HB_; clear hb hg; have hnb16 := NB359_356.out; have hnc16 := NB356_359.out; have hnb17 := NB359_357.out; have hnc17 := NB357_359.out; obtain ⟨hcz18_0, hcz18_1, hcz18_2, hcz18_3, hfz18_0, hfz18_1, hfz18_2, hfz18_3⟩ := ch4_ BK359; have hnb19 := NB357_356.out; have hnc19 := NB356_357.out; obtain ⟨hcz20_0, hcz20_1, hcz20_2, hfz20_0, hfz20_1, hfz20_2⟩ := ch3_ BK357) | ((refine gc_ 51 ?_); refine ge_ 23 Try.func51 #[.int .i64 a0, .agg #[.int .i64 a2_0, .int .i64 a2_1, .int .i64 a2_2], .agg #[.int .i64 ((rd_T72 l1_3 x15_1).f0.f0), .int .i64 ((rd_T72 l1_3 x15_1).f0.f1), .int .i64 ((rd_T72 l1_3 x15_1).f0.f2)]] ?_; (with_reducible refine (impl_holds.calls k1 a0 a2_0 a2_1 a2_2 ((rd_T72 l1_3 x15_1).f0.f0) ((rd_T72 l1_3 x15_1).f0.f1) ((rd_T72 l1_3 x15_1).f0.f2) true _ A11.out).mono ?_); rintro e w21 ⟨rfl, hb⟩; refine ⟨_, rfl, ?_⟩; replace BK356 := fb_ BK356 NB356_359 hb; replace BK357 := fb_ BK357 NB357_359 hb; replace BK359 := Aside0.mk (blk_below (g := gb359) (o := .cells #[.int .i64 ((rd_T72 l1_3 x15_1).f0.f0), .int .i64 ((rd_T72 l1_3 x15_1).f0.f1), .int .i64 ((rd_T72 l1_3 x15_1).f0.f2), .int .i64 ((rd_T72 l1_3 x15_1).f1)] 72 (0, 0)) (bp_ BK359).out hb); replace HB := bt_ HB hb; (try clear hb); obtain ⟨hcz22_0, hcz22_1, hcz22_2, hcz22_3, hfz22_0, hfz22_1, hfz22_2, hfz22_3⟩ := ch4_ BK359) | ((refine gd_ 31 ?_); (try (refine gate_guard (by rfl) ?_; dsimp only)); refine Kd.R_lit (Kd.int .i64) _ 2 ?hg (N := 31) ?hd (xs := ([wrap64 (x8_1 + ((rd_T72 l1_3 x15_1).f1))] : List Int)) (inner := [.int .i64 (wrap64 (x8_1 + ((rd_T72 l1_3 x15_1).f1)))]) (ok := fun _ => True) (okp := fun _ => True) ?hr ?hp (fun _ hk => hk) trivial (Below.refl _ _) (Nat.le_refl _) (by simp) ?_; (case hd => rfl); (case hg => rfl); (case hr => first | (go_simp; done) | (go_simp; rfl)); (case hp => exact (Reps.one (show Kd.M (Kd.int .i64) _ _ _ (wrap64 (x8_1 + ((rd_T72 l1_3 x15_1).f1))) [.int .i64 (wrap64 (x8_1 + ((rd_T72 l1_3 x15_1).f1)))] from rfl) (Reps.none _ _))); intro v362 w23 ho24 hb hg_ hnew_; clear hg_ hnew_; (first | rw [← Ny361.out] at ho24 | (simp only [Int.reduceToNat] at ho24; rw [← Ny361.out] at ho24)); have HO363 := Aside0.mk (Kd.R_lower ho24 (below_size (bw_ HB).out)); replace BK356 := bb_ BK356 hb; replace BK357 := bb_ BK357 hb; replace BK359 := bb_ BK359 hb; replace HB := bt_ HB hb; clear hb ho24; obtain ⟨Ao25, co25, eo25⟩ := Kd.R_slice HO363.out; subst eo25) | (go_at_call 56; (with_reducible refine (impl_isWeight.calls k1 _ _ y361 t364 _ ?side1 ?side2 A14.out).mono ?_); (case side1 => exact ca_ (Kd.R_reads' HO363.out).2.2); (case side2 => exact (Kd.R_reads' HO363.out).2.1); rintro e w' ⟨rfl, ⟨nd, rfl⟩⟩))
     go_roundg k1
     case measure => have := HK1.out; omega
     case rel => exact ⟨(wrap64 (x8_1 + ((rd_T72 l1_3 x15_1).f1))), (t364), (wrap64 (x15_1 + 1)), en_, en_, en_, H', ⟨by have := HK1.out; omega⟩, bl_ BK356, bl_ BK357, bw_ HB⟩
    have H' := Aside0.mk H
    clear H
    have p358 : 0 ≤ (x15_1 : Int) := od_
    have q358 : x15_1 < (l1_3.length : Int) := od_
    obtain ⟨ad358, e358, hx358_0, hx358_1, hx358_2, hx358_3⟩ := at_T72 HR1_3.out x15_1 p358 q358
    cases e358
    replace hx358_0 := clTr HB.out hx358_0
    replace hx358_1 := clTr HB.out hx358_1
    replace hx358_2 := clTr HB.out hx358_2
    replace hx358_3 := clTr HB.out hx358_3
    replace p358 := eq_true p358
    replace q358 := eq_true q358
    go_wp2_with (first | ((refine gd_ 11 ?_); (try (refine gate_guard (by rfl) ?_; dsimp only)); refine by_ 11 #[.int .i64 0, .int .i64 0, .int .i64 0, .int .i64 0] 72 HB ?_; intro gb359 hg w26 BK359 hb GW359 HB_; have NB356_359 := bm_ BK356 hg; have NB359_356 := bn_ BK356 hg; have NB357_359 := bm_ BK357 hg; have NB359_357 := bn_ BK357 hg; replace BK356 := bb_ BK356 hb; replace BK357 := bb_ BK357 hb; replace HB := HB_; clear hb hg; have hnb27 := NB359_356.out; have hnc27 := NB356_359.out; have hnb28 := NB359_357.out; have hnc28 := NB357_359.out; obtain ⟨hcz29_0, hcz29_1, hcz29_2, hcz29_3, hfz29_0, hfz29_1, hfz29_2, hfz29_3⟩ := ch4_ BK359; have hnb30 := NB357_356.out; have hnc30 := NB356_357.out; obtain ⟨hcz31_0, hcz31_1, hcz31_2, hfz31_0, hfz31_1, hfz31_2⟩ := ch3_ BK357) | ((refine gc_ 51 ?_); refine ge_ 23 Try.func51 #[.int .i64 a0, .agg #[.int .i64 a2_0, .int .i64 a2_1, .int .i64 a2_2], .agg #[.int .i64 ((rd_T72 l1_3 x15_1).f0.f0), .int .i64 ((rd_T72 l1_3 x15_1).f0.f1), .int .i64 ((rd_T72 l1_3 x15_1).f0.f2)]] ?_; (with_reducible refine (impl_holds.calls k1 a0 a2_0 a2_1 a2_2 ((rd_T72 l1_3 x15_1).f0.f0) ((rd_T72 l1_3 x15_1).f0.f1) ((rd_T72 l1_3 x15_1).f0.f2) true _ A11.out).mono ?_); rintro e w32 ⟨rfl, hb⟩; refine ⟨_, rfl, ?_⟩; replace BK356 := fb_ BK356 NB356_359 hb; replace BK357 := fb_ BK357 NB357_359 hb; replace BK359 := Aside0.mk (blk_below (g := gb359) (o := .cells #[.int .i64 ((rd_T72 l1_3 x15_1).f0.f0), .int .i64 ((rd_T72 l1_3 x15_1).f0.f1), .int .i64 ((rd_T72 l1_3 x15_1).f0.f2), .int .i64 ((rd_T72 l1_3 x15_1).f1)] 72 (0, 0)) (bp_ BK359).out hb); replace HB := bt_ HB hb; (try clear hb); obtain ⟨hcz33_0, hcz33_1, hcz33_2, hcz33_3, hfz33_0, hfz33_1, hfz33_2, hfz33_3⟩ := ch4_ BK359))
    go_roundg k1
    case measure => have := HK1.out; omega
    case rel => exact ⟨(wrap64 (x8_1 + ((rd_T72 l1_3 x15_1).f1))), (false), (wrap64 (x15_1 + 1)), en_, en_, en_, H', ⟨by have := HK1.out; omega⟩, bl_ BK356, bl_ BK357, bw_ HB⟩
   have H' := Aside0.mk H
   clear H
   have p358 : 0 ≤ (x15_1 : Int) := od_
   have q358 : x15_1 < (l1_3.length : Int) := od_
   obtain ⟨ad358, e358, hx358_0, hx358_1, hx358_2, hx358_3⟩ := at_T72 HR1_3.out x15_1 p358 q358
   cases e358
   replace hx358_0 := clTr HB.out hx358_0
   replace hx358_1 := clTr HB.out hx358_1
   replace hx358_2 := clTr HB.out hx358_2
   replace hx358_3 := clTr HB.out hx358_3
   replace p358 := eq_true p358
   replace q358 := eq_true q358
   go_wp2_with (first | ((refine gd_ 11 ?_); (try (refine gate_guard (by rfl) ?_; dsimp only)); refine by_ 11 #[.int .i64 0, .int .i64 0, .int .i64 0, .int .i64 0] 72 HB ?_; intro gb359 hg w34 BK359 hb GW359 HB_; have NB356_359 := bm_ BK356 hg; have NB359_356 := bn_ BK356 hg; have NB357_359 := bm_ BK357 hg; have NB359_357 := bn_ BK357 hg; replace BK356 := bb_ BK356 hb; replace BK357 := bb_ BK357 hb; replace HB := HB_; clear hb hg; have hnb35 := NB359_356.out; have hnc35 := NB356_359.out; have hnb36 := NB359_357.out; have hnc36 := NB357_359.out; obtain ⟨hcz37_0, hcz37_1, hcz37_2, hcz37_3, hfz37_0, hfz37_1, hfz37_2, hfz37_3⟩ := ch4_ BK359; have hnb38 := NB357_356.out; have hnc38 := NB356_357.out; obtain ⟨hcz39_0, hcz39_1, hcz39_2, hfz39_0, hfz39_1, hfz39_2⟩ := ch3_ BK357) | ((refine gc_ 51 ?_); refine ge_ 23 Try.func51 #[.int .i64 a0, .agg #[.int .i64 a2_0, .int .i64 a2_1, .int .i64 a2_2], .agg #[.int .i64 ((rd_T72 l1_3 x15_1).f0.f0), .int .i64 ((rd_T72 l1_3 x15_1).f0.f1), .int .i64 ((rd_T72 l1_3 x15_1).f0.f2)]] ?_; (with_reducible refine (impl_holds.calls k1 a0 a2_0 a2_1 a2_2 ((rd_T72 l1_3 x15_1).f0.f0) ((rd_T72 l1_3 x15_1).f0.f1) ((rd_T72 l1_3 x15_1).f0.f2) false _ A11.out).mono ?_); rintro e w40 ⟨rfl, hb⟩; refine ⟨_, rfl, ?_⟩; replace BK356 := fb_ BK356 NB356_359 hb; replace BK357 := fb_ BK357 NB357_359 hb; replace BK359 := Aside0.mk (blk_below (g := gb359) (o := .cells #[.int .i64 ((rd_T72 l1_3 x15_1).f0.f0), .int .i64 ((rd_T72 l1_3 x15_1).f0.f1), .int .i64 ((rd_T72 l1_3 x15_1).f0.f2), .int .i64 ((rd_T72 l1_3 x15_1).f1)] 72 (0, 0)) (bp_ BK359).out hb); replace HB := bt_ HB hb; (try clear hb)))
   go_roundg k1
   case measure => have := HK1.out; omega
   case rel => exact ⟨(x8_1), (x9_1), (wrap64 (x15_1 + 1)), en_, en_, en_, H', ⟨by have := HK1.out; omega⟩, bl_ BK356, bl_ BK357, bw_ HB⟩
  simp only [Option.some.injEq, Prod.mk.injEq] at H
  obtain ⟨rfl, rfl⟩ := H
  go_wp2
  go_ret2
  exact ⟨es_, (bw_ HB).out⟩
/-! ### slices_Clone_impl_Piece: function 49 -/
def clone49_ren : Go.Shelf.Ren := ⟨fun | 41 => 49 | n => n, fun | 22 => 32 | 23 => 72 | 4 => 4 | n => n, fun | n => n⟩
theorem clone49 : Go.Proofs.SlLaysE0.n41 Try.prog clone49_ren := {
  mixed := by kernel_rfl
  f41 := ⟨Try.f49.name, by decide, Try.func49.trans (congrArg some (by kernel_rfl))⟩
  t4 := Try.underlying4
  a4 := Try.isAgg4
  z4 := Try.sizeOf4
  v4 := Try.zeroValue4
  t22 := Try.underlying32
  a22 := Try.isAgg32
  z22 := Try.sizeOf32
  v22 := Try.zeroValue32 }
def slices_Clone_impl_Piece.f (l0 : List (S72)) : Option (List (S72)) := if 0 < l0.length ∧ l0.length ≤ 4398046511104 then some l0 else none
theorem slices_Clone_impl_Piece.calls (A0 : Option Addr) (c0 : Nat) (l0 : List (S72)) (r : List (S72)) (w : World) (hr0 : Kd.C k72 w A0 l0.length l0) (hc0 : l0.length ≤ c0) (h : slices_Clone_impl_Piece.f l0 = some r) :
  Calls Try.prog 49 #[.slice A0 l0.length c0] w fun e w' => ∃ v0_ : Value, e = .returned (v0_) ∧ Kd.R k72 72 w' w.heap.size (fun _ => True) v0_ r ∧ Below w.heap.size w w' := by
 unfold slices_Clone_impl_Piece.f at h
 by_cases hl : 0 < l0.length ∧ l0.length ≤ 4398046511104
 ·rw [if_pos hl] at h
  obtain rfl := Option.some.inj h
  obtain ⟨i0, hi, hzz⟩ := Option.map_eq_some_iff.1 info72
  simp only [Prod.mk.injEq] at hzz
  obtain ⟨hz0, hz1, hz2⟩ := hzz
  obtain ⟨ad, ca, rfl, hca, hKa, hcc⟩ := Kd.C_get hr0 z72 0 (by omega) (by omega)
  obtain ⟨news, hnr, hnc⟩ := ReadsRow.inner_ hr0
  have hsz : k72.sz = 4 := rfl
  have hone : ∀ u ∈ news, u.oneCell' = true := by
   intro u hu
   obtain ⟨q, hq, rfl⟩ := List.mem_iff_getElem.1 hu
   have hs0 : 0 < k72.sz := by rw [hsz]; omega
   have hql : q / k72.sz < l0.length := by rw [Nat.div_lt_iff_lt_mul hs0, ← hnr.1]; exact hq
   have hc := hnr.2 (q / k72.sz) _ (List.getElem?_eq_getElem hql)
   refine k72.K_one hc _ ?_
   rw [List.mem_iff_getElem?]
   refine ⟨q % k72.sz, ?_⟩
   rw [List.getElem?_take, if_pos (Nat.mod_lt _ hs0), List.getElem?_drop, Nat.mul_comm, Nat.div_add_mod, List.getElem?_eq_getElem hq]
  obtain ⟨b, off, sp⟩ := ad
  have hsp : sp = none := by
   cases sp with
   | none => rfl
   | some s_ =>
    obtain ⟨u, hu⟩ : ∃ u, ca[0]? = some u := ⟨_, List.getElem?_eq_getElem (by rw [hca, hsz]; omega)⟩
    have h1 := hcc 0 u hu
    simp only [Int.toNat_zero, Nat.zero_mul, Nat.zero_add, Nat.add_zero, Addr.add, if_true] at h1
    unfold World.cell? at h1
    split at h1 <;> simp at h1
  subst hsp
  have hadd : ∀ j, (⟨b, off, none⟩ : Addr).add j = ⟨b, off + j, none⟩ := fun j => by unfold Addr.add; split <;> simp_all
  refine (AnyE.slices_Clone clone49 i0 (.agg #[(.int .i64 0), (.int .i64 0), (.int .i64 0), (.int .i64 0)]) 4 32 hi hz0 hz1 hz2 rfl (by decide) Try.sizeOf72 b off l0.length c0 news w (by rw [hnr.1, hsz]) (by unfold maxLen; omega) (by omega) (fun j u hu => by rw [← hadd]; exact hnc j u hu) hone).mono ?_
  rintro e w' ⟨v', rfl, ho, _, hb⟩
  refine ⟨v', rfl, ⟨fun _ _ => trivial, news, ho, hnr.imp_ (fun x cs hK => ?_)⟩, hb⟩
  obtain rfl := k72_open hK
  exact k72_mkM _ _ _ x
 rw [if_neg hl] at h
 exact absurd h (by simp)
end Go.Proofs.Ytdfcoebadjhjlaa.QG
