import Derived.Test.YtgoeelhiffbjlaaQRx8
import Derived.Test.YtgoeelhiffbjlaaQRx46
import Derived.Test.YtgoeelhiffbjlaaQRx30
import Derived.Test.YtgoeelhiffbjlaaQRx33
import Derived.Ground.SlgnProg
import Derived.Shelf.Lay
import Derived.Shelf.SlGeneric
import Derived.Shelf.SlicesQ.Reverse
import Derived.Shelf.Strings.BuilderK
import Derived.Test.YtgoeelhiffbjlaaQRx40
namespace Go.Proofs.Ytgoeelhiffbjlaa.QR
set_option maxHeartbeats 8000000
set_option maxRecDepth 100000
open Go.RowKit Go.Proofs.YtgoeelhiffbjlaaW.PrintWords Go.Proofs.YtgoeelhiffbjlaaW.PrintLast Go.Proofs.YtgoeelhiffbjlaaW.PrintMore
attribute [local go_sem] isSome_setCell max2_int min2_int max_two min_two max_three min_three max_four min_four
set_option linter.unusedVariables false
set_option linter.unusedSimpArgs false

/-! ### impl_letterTo: function 82 -/
def impl_letterTo.f (k : Nat) (a0 : Int) (a1_0 : Int) (a1_1 : Int) (a1_2 : Int) (a2_0 : Int) (a2_1 : Int) (a2_2 : Int) : Option (Int) := if a2_0 < a1_0 then (some 117) else ((impl_toward.f k a0 a1_0 a1_1 a1_2 a2_0 a2_1 a2_2).bind fun t403 => (some ((wrap64 ((wrap64 (48 + t403)) - 1)) % 256)))
theorem impl_letterTo.calls (k : Nat) (a0 : Int) (a1_0 : Int) (a1_1 : Int) (a1_2 : Int) (a2_0 : Int) (a2_1 : Int) (a2_2 : Int) (r : Int) (w : World) (h : impl_letterTo.f k a0 a1_0 a1_1 a1_2 a2_0 a2_1 a2_2 = some r) :
  Calls Try.prog 82 #[.int .i64 a0, .agg #[.int .i64 a1_0, .int .i64 a1_1, .int .i64 a1_2], .agg #[.int .i64 a2_0, .int .i64 a2_1, .int .i64 a2_2]] w fun e w' => e = .returned (.int .u8 r) ∧ Below w.heap.size w w' := by
 have hu25 := Try.underlying25
 have HB := Aside0.mk (Below.refl w.heap.size w)
 have H : (if a2_0 < a1_0 then (some 117) else ((impl_toward.f k a0 a1_0 a1_1 a1_2 a2_0 a2_1 a2_2).bind fun t403 => (some ((wrap64 ((wrap64 (48 + t403)) - 1)) % 256)))) = some r := h
 clear h
 by_cases c4 : a2_0 < a1_0
 ·rw [if_pos c4] at H
  have c4b0 : decide (a2_0 < a1_0) = true := decide_eq_true c4
  clear c4
  obtain rfl := si_ H
  go_enter Try.func82, Try.ntmps82
  go_wp2_with (first | ((refine gd_ 4 ?_); refine bx_ 4 #[.int .i64 a1_0, .int .i64 a1_1, .int .i64 a1_2] 25 ?_; intro gb401 hg w5 BK401 hb; have GW401 := bs_ HB hg; have GE401 := bs_ HB hg; replace HB := bt_ HB hb; clear hb hg) | ((refine gd_ 5 ?_); refine bx_ 5 #[.int .i64 a2_0, .int .i64 a2_1, .int .i64 a2_2] 25 ?_; intro gb402 hg w6 BK402 hb; have GW402 := bs_ HB hg; have GE402 := bs_ HB hg; have NB401_402 := bm_ BK401 hg; have NB402_401 := bn_ BK401 hg; replace BK401 := bb_ BK401 hb; replace HB := bt_ HB hb; clear hb hg; have hnb7 := NB402_401.out; have hnc7 := NB401_402.out; obtain ⟨hcz8_0, hcz8_1, hcz8_2, hfz8_0, hfz8_1, hfz8_2⟩ := ch3_ BK402; obtain ⟨hcz9_0, hcz9_1, hcz9_2, hfz9_0, hfz9_1, hfz9_2⟩ := ch3_ BK401))
  go_ret
  exact ⟨es_, (bw_ HB).out⟩
 ·rw [if_neg c4] at H
  have c4b0 : decide (a2_0 < a1_0) = false := decide_eq_false c4
  clear c4
  replace H := ob_ H
  obtain ⟨t403, A100, H⟩ := H
  have A10 := Aside0.mk A100
  clear A100
  obtain rfl := si_ H
  go_enter Try.func82, Try.ntmps82
  go_wp2_with (first | ((refine gd_ 4 ?_); refine bx_ 4 #[.int .i64 a1_0, .int .i64 a1_1, .int .i64 a1_2] 25 ?_; intro gb401 hg w11 BK401 hb; have GW401 := bs_ HB hg; have GE401 := bs_ HB hg; replace HB := bt_ HB hb; clear hb hg) | ((refine gd_ 5 ?_); refine bx_ 5 #[.int .i64 a2_0, .int .i64 a2_1, .int .i64 a2_2] 25 ?_; intro gb402 hg w12 BK402 hb; have GW402 := bs_ HB hg; have GE402 := bs_ HB hg; have NB401_402 := bm_ BK401 hg; have NB402_401 := bn_ BK401 hg; replace BK401 := bb_ BK401 hb; replace HB := bt_ HB hb; clear hb hg; have hnb13 := NB402_401.out; have hnc13 := NB401_402.out; obtain ⟨hcz14_0, hcz14_1, hcz14_2, hfz14_0, hfz14_1, hfz14_2⟩ := ch3_ BK402; obtain ⟨hcz15_0, hcz15_1, hcz15_2, hfz15_0, hfz15_1, hfz15_2⟩ := ch3_ BK401) | ((refine gc_ 116 ?_); refine ge_ 15 Try.func116 #[.int .i64 a0, .agg #[.int .i64 a1_0, .int .i64 a1_1, .int .i64 a1_2], .agg #[.int .i64 a2_0, .int .i64 a2_1, .int .i64 a2_2]] ?_; (with_reducible refine (impl_toward.calls k a0 a1_0 a1_1 a1_2 a2_0 a2_1 a2_2 t403 _ A10.out).mono ?_); rintro e w16 ⟨rfl, hb⟩; refine ⟨_, rfl, ?_⟩; replace BK401 := bb_ BK401 hb; replace BK402 := bb_ BK402 hb; replace HB := bt_ HB hb; (try clear hb)))
  go_ret
  exact ⟨es_, (bw_ HB).out⟩
/-! ### impl_ReverseSteps: function 12 -/
shelf_lay_g SlLaysE0.n35 Slgn 35 at Try 80 as reverse80
def impl_ReverseSteps.enc (x : S25) : List Value := [.int .i64 x.f0, .int .i64 x.f1, .int .i64 x.f2]
theorem impl_ReverseSteps.flat [Inhabited S25] (d : Array S25) (j i : Nat) (hj : j < d.size) (hi : i < 3) : (Go.Sort.flatK impl_ReverseSteps.enc 3 d)[j * 3 + i]! = (impl_ReverseSteps.enc d[j]!)[i]! := by
 rw [Go.Sort.get_flatK _ _ _ _ (by omega), show (j * 3 + i) / 3 = j by omega, show (j * 3 + i) % 3 = i by omega]
theorem impl_ReverseSteps.rev (g cap : Nat) (l : List S25) (w : World) (base : Nat) (ok : Nat → Prop) (hR : Kd.R k25 25 w base ok (.slice (some ⟨g, 0, none⟩) l.length cap) l) (hl : 0 < l.length) (hsz : l.length < 4611686018427387904) :
  Calls Try.prog 80 #[.slice (some ⟨g, 0, none⟩) l.length cap] w fun e w' => e = .returned (.tuple #[]) ∧ (∀ j i v, j < l.length → (impl_ReverseSteps.enc (l.reverse.getD j z25))[i]? = some v → w'.cell? ⟨g, j * 3 + i, none⟩ = some v) ∧ w.grownBy w' (some g) ∧ g < w.heap.size ∧ w'.heap.size = w.heap.size := by
 obtain ⟨hok, inner, ⟨hil, hh⟩, hrep⟩ := hR
 have hsz3 : k25.sz = 3 := rfl
 rcases hh with ⟨e0, _⟩ | ⟨g', cap', cur, e0, hb, hg, hn, hm, hs, ht⟩
 ·cases e0
 injection e0 with e1 _ e3
 injection e1 with e1
 injection e1 with e1
 subst e1; subst e3
 rw [hsz3] at hil hs ht
 have hgl : g < w.heap.size := (Array.getElem?_eq_some_iff.1 hg).1
 haveI : Inhabited S25 := ⟨z25⟩
 obtain ⟨d, hd0⟩ : ∃ d : Array S25, d = l.toArray := ⟨_, rfl⟩
 have hd : d.size = l.length := by rw [hd0]; simp
 have hdg : ∀ j, (hj : j < l.length) → d[j]! = l[j] := fun j hj => by
  rw [getElem!_pos d j (by omega)]
  simp [hd0]
 have hcell : ∀ j, (hj : j < l.length) → ((inner.drop (j * 3)).take 3) = impl_ReverseSteps.enc l[j] := fun j hj => by
  have h1 := k25.K_of_M (hrep.2 j l[j] (List.getElem?_eq_getElem hj))
  rw [hsz3] at h1
  exact k25_open h1
 have hH : Go.Sort.HoldsK impl_ReverseSteps.enc 3 w g 0 d := by
  intro j hj
  rw [Go.Sort.size_flatK, hd] at hj
  have hj3 : j / 3 < l.length := by omega
  have hjc : j < cur.size := by rw [hs]; omega
  refine ⟨?_, by simp [World.frozen?, hg]⟩
  rw [Nat.zero_add]
  unfold World.cell?
  simp only [hg, Option.isSome_none, Bool.false_eq_true, if_false]
  have h1 : inner[j]? = cur[j]? := by
   rw [← ht, List.getElem?_take, if_pos (by omega), Array.getElem?_toList]
  have h2 := congrArg (fun z => z[j % 3]?) (hcell (j / 3) hj3)
  simp only [List.getElem?_take, List.getElem?_drop, if_pos (Nat.mod_lt j (show 0 < 3 by omega))] at h2
  rw [show j / 3 * 3 + j % 3 = j by omega] at h2
  rw [← h1, h2, id, Go.Sort.get_flatK _ _ _ _ (by rw [hd]; exact hj), hdg _ hj3, List.getElem?_eq_getElem (show j % 3 < (impl_ReverseSteps.enc l[j / 3]).length from Nat.mod_lt j (by decide)), getElem!_pos _ (j % 3) (show j % 3 < (impl_ReverseSteps.enc l[j / 3]).length from Nat.mod_lt j (by decide))]
 have hcon := AnyQ.slices_Reverse (P := Try.prog) reverse80 3 Try.isAgg25 Try.sizeOf25 impl_ReverseSteps.enc (fun _ => rfl) (fun x v hv => by simp only [impl_ReverseSteps.enc, List.mem_cons, List.not_mem_nil, or_false] at hv; rcases hv with rfl | rfl | rfl <;> rfl) g 0 cap d w hH (by omega)
 change Calls Try.prog 80 _ _ _ at hcon
 rw [hd] at hcon
 refine hcon.mono ?_
 rintro e w' ⟨rfl, n, rfl⟩
 have hds : d.reverse.size = d.size := by simp
 have hdr : ∀ j, j < l.length → d.reverse[j]! = l.reverse.getD j z25 := fun j hj => by
  rw [getElem!_pos d.reverse j (by omega), List.getD_eq_getElem?_getD, List.getElem?_eq_getElem (by simpa using hj)]
  simp [hd0]
 refine ⟨rfl, fun j i v hj hi => ?_, ⟨rfl, rfl, rfl, by unfold Go.Sort.putRowK; rw [Go.Sort.size_putRow]; exact Nat.le_refl _, fun i hi hni => ?_⟩, hgl, by unfold Go.Sort.putRowK; rw [Go.Sort.size_putRow]; rfl⟩
 ·have h1 := Go.Sort.holdsK_putRowK (k := 3) (enc := impl_ReverseSteps.enc) (Go.Sort.ahead w n) g 0 d d.reverse hH hds
  have hi3 : i < 3 := (List.getElem?_eq_some_iff.1 hi).1
  have h2 := (h1 (j * 3 + i) (by rw [Go.Sort.size_flatK, hds, hd]; omega)).1
  rw [Nat.zero_add] at h2
  rw [h2, id, impl_ReverseSteps.flat d.reverse j i (by rw [hds, hd]; exact hj) hi3, hdr j hj, getElem!_pos _ i (by show i < 3; exact hi3)]
  rw [List.getElem?_eq_getElem (by show i < 3; exact hi3)] at hi
  exact hi
 ·unfold Go.Sort.putRowK
  have : g ≠ i := fun e => hni (by rw [e])
  simp [Go.Sort.putRow, Go.Sort.mapBlock, Go.Sort.ahead, Array.getElem?_modify, this]
def write81_ren : Shelf.Ren := { f := fun x => match x with | 167 => 81 | 240 => 154 | 276 => 186 | n => n, t := fun x => match x with | 70 => 102 | 9 => 9 | 0 => 0 | 72 => 104 | 37 => 22 | 5 => 5 | 4 => 4 | 20 => 20 | 75 => 106 | 80 => 109 | 164 => 181 | n => n, g := fun n => n }
theorem write81 : Lays.n167 Try.prog write81_ren where
 mixed := by kernel_rfl
 f167 := by kernel_rfl
 f240 := by kernel_rfl
 f276 := by kernel_rfl
 t0 := Try.underlying0
 a0 := Try.isAgg0
 z0 := Try.sizeOf0
 v0 := Try.zeroValue0
 t4 := Try.underlying4
 a4 := Try.isAgg4
 z4 := Try.sizeOf4
 v4 := Try.zeroValue4
 t5 := Try.underlying5
 a5 := Try.isAgg5
 z5 := Try.sizeOf5
 v5 := Try.zeroValue5
 t9 := Try.underlying9
 a9 := Try.isAgg9
 z9 := Try.sizeOf9
 v9 := Try.zeroValue9
 t20 := Try.underlying20
 a20 := Try.isAgg20
 z20 := Try.sizeOf20
 v20 := Try.zeroValue20
 t37 := Try.underlying22
 a37 := Try.isAgg22
 z37 := Try.sizeOf22
 v37 := Try.zeroValue22
 t70 := Try.underlying102
 a70 := Try.isAgg102
 z70 := Try.sizeOf102
 v70 := Try.zeroValue102
 t72 := Try.underlying104
 a72 := Try.isAgg104
 z72 := Try.sizeOf104
 v72 := Try.zeroValue104
 t75 := Try.underlying106
 a75 := Try.isAgg106
 z75 := Try.sizeOf106
 v75 := Try.zeroValue106
 t164 := Try.underlying181
 a164 := Try.isAgg181
 z164 := Try.sizeOf181
 v164 := Try.zeroValue181
theorem impl_ReverseSteps.x167 : Builder.Extra Try.prog write81_ren where
 sizeBuilder := by kernel_rfl
 liesBuilder := by kernel_rfl
 t5 := Try.underlying5
 a5 := Try.isAgg5
 z5 := Try.sizeOf5
 v5 := Try.zeroValue5
 infoByte := by kernel_rfl
 cellsByte := by kernel_rfl
 sizeByte := by kernel_rfl
 neB5 := by decide
shelf_lay Lays.n169 Nm 169 at Try as text83
theorem impl_ReverseSteps.x169 : Builder.Extra Try.prog text83_ren where
 sizeBuilder := by kernel_rfl
 liesBuilder := by kernel_rfl
 t5 := Try.underlying5
 a5 := Try.isAgg5
 z5 := Try.sizeOf5
 v5 := Try.zeroValue5
 infoByte := by kernel_rfl
 cellsByte := by kernel_rfl
 sizeByte := by kernel_rfl
 neB5 := by decide
theorem impl_ReverseSteps.write (B b : Nat) (bs : List Value) (c : Int) (w : World) (h : Lib.IsBuilderF 104 5 B b bs w) (hlen : bs.length + 1 ≤ 140737488355328) (hBw : B ≤ w.heap.size) :
  Calls Try.prog 81 #[.pointer (some ⟨b, 0, none⟩), .int .u8 c] w fun e w' => e = .returned .nilIface ∧ Lib.IsBuilderF 104 5 B b (bs ++ [.int .u8 c]) w' ∧ Below B w w' :=
 (Any.Builder_WriteByte_k write81 impl_ReverseSteps.x167 B b bs c w h hlen hBw).mono fun e w' hh => ⟨hh.1, .inr hh.2.1, hh.2.2.1⟩
theorem impl_ReverseSteps.text (B b : Nat) (l : List UInt8) (w : World) (h : Lib.IsBuilderF 104 5 B b (Lib.byteCells l) w) (hBw : B ≤ w.heap.size) :
  Calls Try.prog 83 #[.pointer (some ⟨b, 0, none⟩)] w fun e w' => e = .returned (.string ⟨l.toArray⟩) ∧ Below B w w' :=
 (Any.Builder_String_any_k text83 impl_ReverseSteps.x169 B b l w h hBw).mono fun e w' hh => ⟨hh.1, hh.2.2.1⟩
theorem impl_ReverseSteps.kept {B b : Nat} {bs : List Value} {w w' : World} (h : Lib.IsBuilderF 104 5 B b bs w) (hb : Below w.heap.size w w') : Lib.IsBuilderF 104 5 B b bs w' := by
 have row : ∀ v n xs, w.ownsRowF B 5 1 v n xs → w'.ownsRowF B 5 1 v n xs := by
  rintro v n xs ⟨h1, h2⟩
  refine ⟨h1, h2.elim .inl fun h2 => ?_⟩
  obtain ⟨g, cap, cur, fz, e, hB, hg, r⟩ := h2
  exact .inr ⟨g, cap, cur, fz, e, hB, (hb.block g (Array.getElem?_eq_some_iff.1 hg).1).trans hg, r⟩
 have at_ : ∀ p, Lib.BuilderAtF 104 5 B b p bs w → Lib.BuilderAtF 104 5 B b p bs w' := by
  rintro p ⟨h1, v, h2, h3, h4⟩
  exact ⟨h1, v, (hb.block b (Array.getElem?_eq_some_iff.1 h2).1).trans h2, row _ _ _ h3, h4⟩
 exact h.elim (fun x => .inl (at_ _ x)) (fun x => .inr (at_ _ x))
theorem impl_ReverseSteps.cell_new (w : World) (cs : Array Value) (t : TypeId) (n : Nat) (h : n = w.heap.size) (i : Nat) : (w.alloc (.cells cs t)).cell? ⟨n, i, none⟩ = cs[i]? := by
 subst h
 unfold World.cell? World.alloc
 simp
def impl_ReverseSteps.at_ (k : Nat) (a0 : Int) (l : List S25) (i : Nat) : Option Int := impl_letterTo.f k a0 (l.getD i z25).f0 (l.getD i z25).f1 (l.getD i z25).f2 (l.getD (i + 1) z25).f0 (l.getD (i + 1) z25).f1 (l.getD (i + 1) z25).f2
def impl_ReverseSteps.ok_ (k : Nat) (a0 : Int) (l : List S25) : Prop := (0 < l.length ∧ l.length < 1073741824) ∧ ∀ i, i < l.length - 1 → ∃ c, impl_ReverseSteps.at_ k a0 l.reverse i = some c ∧ 0 ≤ c ∧ c ≤ 255
def impl_ReverseSteps.okB (k : Nat) (a0 : Int) (l : List S25) : Bool := decide (0 < l.length ∧ l.length < 1073741824) && (List.range (l.length - 1)).all fun i => match impl_ReverseSteps.at_ k a0 l.reverse i with | some c => decide (0 ≤ c ∧ c ≤ 255) | none => false
theorem impl_ReverseSteps.ok_of {k : Nat} {a0 : Int} {l : List S25} (h : impl_ReverseSteps.okB k a0 l = true) : impl_ReverseSteps.ok_ k a0 l := by
 unfold impl_ReverseSteps.okB at h
 rw [Bool.and_eq_true, decide_eq_true_eq, List.all_eq_true] at h
 refine ⟨h.1, fun i hi => ?_⟩
 have h2 := h.2 i (List.mem_range.2 hi)
 cases e : impl_ReverseSteps.at_ k a0 l.reverse i with
 | none => rw [e] at h2; cases h2
 | some c => rw [e] at h2; exact ⟨c, rfl, of_decide_eq_true h2⟩
def impl_ReverseSteps.byte (k : Nat) (a0 : Int) (l : List S25) (i : Nat) : UInt8 := UInt8.ofNat ((impl_ReverseSteps.at_ k a0 l.reverse i).getD 0).toNat
def impl_ReverseSteps.f (k : Nat) (a0 : Int) (a1_0 : Int) (a1_1 : Int) (a1_2 : Int) (a2 : ByteArray) : Option (ByteArray × Int) :=
 (impl_stepsCode.f k a0 a1_0 a1_1 a1_2 a2).bind fun t => if t = 0 then ((impl_follow.f k a0 a1_0 a1_1 a1_2 a2).bind fun bt => if bt.2 = true then (if impl_ReverseSteps.okB k a0 bt.1 = true then some (⟨((List.range (bt.1.length - 1)).map (impl_ReverseSteps.byte k a0 bt.1)).toArray⟩, 0) else none) else some (⟨#[]⟩, 3)) else some (⟨#[]⟩, t)
theorem wrap_id_ (n : Int) (h0 : -9223372036854775808 ≤ n) (h1 : n ≤ 9223372036854775807) : wrap64 n = n := by unfold wrap64; omega
def impl_ReverseSteps.T12 : Bool × List (List Nat × List Nat) := (true, [([], []), ([], []), ([], []), ([2], [2]), ([1, 3], [1, 3]), ([4], [4]), ([], []), ([], []), ([6, 7], [6, 7]), ([8], [8]), ([0, 5, 9], [0, 5, 9]), ([10, 10], [10])])
def impl_ReverseSteps.B12 : List Nat := [0, 0, 0, 4, 14, 30, 0, 0, 192, 448, 1023, 2047]
theorem impl_ReverseSteps.tab12 : rtab .any (opsOf Try.f12 12) = impl_ReverseSteps.T12 := by kernel_rfl
theorem impl_ReverseSteps.bits12 : waitsOk impl_ReverseSteps.T12.2 impl_ReverseSteps.B12 = true := by kernel_rfl
theorem impl_ReverseSteps.calls (k : Nat) (a0 : Int) (a1_0 : Int) (a1_1 : Int) (a1_2 : Int) (a2 : ByteArray) (r1 : ByteArray) (r2 : Int) (w : World) (h : impl_ReverseSteps.f k a0 a1_0 a1_1 a1_2 a2 = some (r1, r2)) :
  Calls Try.prog 12 #[.int .i64 a0, .agg #[.int .i64 a1_0, .int .i64 a1_1, .int .i64 a1_2], .string a2] w fun e w' => e = .returned (.tuple #[.string r1, .int .i64 r2]) ∧ Below w.heap.size w w' := by
 unfold impl_ReverseSteps.f at h
 obtain ⟨t, ht, h⟩ := Option.bind_eq_some_iff.mp h
 by_cases ct : t = 0
 ·subst ct
  rw [if_pos rfl] at h
  obtain ⟨⟨l, ok⟩, hf, h⟩ := Option.bind_eq_some_iff.mp h
  have HT := Aside0.mk ht
  have HF := Aside0.mk hf
  have HH := Aside0.mk h
  clear ht hf h
  have hb0 : Below w.heap.size w (w.alloc (.cells #[.int .i64 a1_0, .int .i64 a1_1, .int .i64 a1_2] 25)) := (Below.refl _ w).alloc (Nat.le_refl _) _
  go_enter Try.func12, Try.ntmps12
  go_wp2_with (go_at_call 76; refine (impl_stepsCode.calls k a0 a1_0 a1_1 a1_2 a2 0 _ HT.out).mono ?_)
  rintro e w1 rfl hb1
  have hc0 : w1.cell? ⟨w.heap.size, 0, none⟩ = some (.int .i64 a1_0) := (hb1.cell (p := ⟨w.heap.size, 0, none⟩) (by simp)).trans ((impl_ReverseSteps.cell_new w _ _ _ rfl 0).trans rfl)
  have hc1 : w1.cell? ⟨w.heap.size, 1, none⟩ = some (.int .i64 a1_1) := (hb1.cell (p := ⟨w.heap.size, 1, none⟩) (by simp)).trans ((impl_ReverseSteps.cell_new w _ _ _ rfl 1).trans rfl)
  have hc2 : w1.cell? ⟨w.heap.size, 2, none⟩ = some (.int .i64 a1_2) := (hb1.cell (p := ⟨w.heap.size, 2, none⟩) (by simp)).trans ((impl_ReverseSteps.cell_new w _ _ _ rfl 2).trans rfl)
  have hbw1 : Below w.heap.size w w1 := hb0.trans (hb1.mono (by simp))
  go_wp2_with (go_at_call 77; refine (impl_follow.calls k a0 a1_0 a1_1 a1_2 a2 l ok _ HF.out).mono ?_)
  rintro e w2 ⟨v0, rfl, hR, hb2⟩
  have hbw2 : Below w.heap.size w w2 := hbw1.trans (hb2.mono (by have := hbw1.size; omega))
  cases ok with
  | false =>
   have h := HH.out
   rw [if_neg (by decide)] at h
   injection h with h
   injection h with h1 h2
   subst h1 h2
   go_wp2
   go_ret2
   exact ⟨rfl, hbw2⟩
  | true =>
   have h := HH.out
   rw [if_pos rfl] at h
   by_cases hk : impl_ReverseSteps.okB k a0 l = true
   ·rw [if_pos hk] at h
    injection h with h
    injection h with h1 h2
    subst h1 h2
    obtain ⟨⟨hl0, hl1⟩, hat⟩ := impl_ReverseSteps.ok_of hk
    obtain ⟨g, cap, rfl, hbase, hgl, _⟩ := Kd.R_form hR hl0
    have hcon := impl_ReverseSteps.rev g cap l w2 _ _ hR hl0 (by omega)
    have HAT := Aside0.mk hat
    clear hk hat HH
    go_wp2_with (go_at_call 80; refine hcon.mono ?_)
    rintro e w3 ⟨rfl, hcells, hg3, _, hs3⟩
    go_wp2
    go_loopg [12] (l.length - 1) (fun kk s12 wr => ∃ i : Nat, s12 = .int .i64 ((i + 1 : Nat) : Int) ∧ i + kk = l.length - 1 ∧ Lib.IsBuilderF 104 5 w2.heap.size w2.heap.size (Lib.byteCells ((List.range i).map (impl_ReverseSteps.byte k a0 l))) wr ∧ Below w2.heap.size w3 wr)
    case atStart =>
     refine ⟨0, rfl, by omega, by rw [← hs3]; exact Lib.IsBuilderF.of (Lib.fresh_isBuilder 104 5 w3), (Below.refl _ w3).alloc (by omega) _⟩
    case round =>
     obtain ⟨i, rfl, hi, hI, hbw⟩ := hrel
     by_cases hlt : i < l.length - 1
     ·have hlt2 : ((i + 1 : Nat) : Int) < (l.length : Int) := by omega
      have hlt3 : decide (((i + 1 : Nat) : Int) < (l.length : Int)) = true := decide_eq_true hlt2
      have pi1 : (0 ≤ (i : Int)) = True := eq_true (by omega)
      have qi1 : ((i : Int) < (l.length : Int)) = True := eq_true (by omega)
      have pi2 : (0 ≤ (i : Int) + 1) = True := eq_true (by omega)
      have qi2 : ((i : Int) + 1 < (l.length : Int)) = True := eq_true (by omega)
      go_wp2
      obtain ⟨x, hx⟩ : ∃ x, x = l.reverse.getD i z25 := ⟨_, rfl⟩
      obtain ⟨y, hy⟩ : ∃ y, y = l.reverse.getD (i + 1) z25 := ⟨_, rfl⟩
      have cx := fun q v (hv : (impl_ReverseSteps.enc x)[q]? = some v) => (hbw.cell (p := ⟨g, i * 3 + q, none⟩) (by simp; omega)).trans (hcells i q v (by omega) (by rw [← hx]; exact hv))
      have cy := fun q v (hv : (impl_ReverseSteps.enc y)[q]? = some v) => (hbw.cell (p := ⟨g, (i + 1) * 3 + q, none⟩) (by simp; omega)).trans (hcells (i + 1) q v (by omega) (by rw [← hy]; exact hv))
      have HX := Aside0.mk hx
      have HY := Aside0.mk hy
      clear hx hy
      refine start_ (n := 12) (S := fun w' => w'.cell? ⟨g, i * 3, none⟩ = some (.int .i64 x.f0) ∧ w'.cell? ⟨g, i * 3 + 1, none⟩ = some (.int .i64 x.f1) ∧ w'.cell? ⟨g, i * 3 + 2, none⟩ = some (.int .i64 x.f2) ∧ w'.cell? ⟨g, (i + 1) * 3, none⟩ = some (.int .i64 y.f0) ∧ w'.cell? ⟨g, (i + 1) * 3 + 1, none⟩ = some (.int .i64 y.f1) ∧ w'.cell? ⟨g, (i + 1) * 3 + 2, none⟩ = some (.int .i64 y.f2)) (ds := []) (bv_ 12 0) (by kernel_rfl) rfl rfl ⟨cx 0 _ rfl, cx 1 _ rfl, cx 2 _ rfl, cy 0 _ rfl, cy 1 _ rfl, cy 2 _ rfl⟩ (fun hHeld => ?_); refine with_tabW impl_ReverseSteps.tab12 impl_ReverseSteps.bits12 (fun HT_ HW_ => ?_)
      refine px_ HT_ 0 37 1 ?_
      refine px_ HT_ 1 38 3 ?_
      refine px_ HT_ 2 39 7 ?_
      refine px_ HT_ 6 43 71 ?_
      refine px_ HT_ 7 44 199 ?_
      refine px_ HT_ 3 40 207 ?_
      rw [wrap_id_ (i : Int) (by omega) (by omega)]
      refine px_ HT_ 4 41 223 ?_
      refine px_ HT_ 8 45 479 ?_
      refine ta_ HT_ HW_ 5 (some 42) (bv_ 12 511) hHeld ?_ (hy := by rintro w' ⟨s0, s1, s2, s3, s4, s5⟩; go_simp; with_reducible rfl)
      refine ta_ HT_ HW_ 9 (some 46) (bv_ 12 1023) hHeld ?_ (hy := by rintro w' ⟨s0, s1, s2, s3, s4, s5⟩; go_simp; with_reducible rfl)
      obtain ⟨c, hc, hc0, hc1⟩ := HAT.out i (by omega)
      unfold impl_ReverseSteps.at_ at hc
      rw [← HX.out, ← HY.out] at hc
      have hId := impl_ReverseSteps.kept hI (below_drew1 (Below.refl _ wr))
      refine on_ HT_ 10 (some 47) (bv_ 12 2047) (fun K hK => ?_)
      refine gs_ Try.func82 #[.int .i64 a0, .agg #[.int .i64 x.f0, .int .i64 x.f1, .int .i64 x.f2], .agg #[.int .i64 y.f0, .int .i64 y.f1, .int .i64 y.f2]] ?_
      refine (impl_letterTo.calls k a0 x.f0 x.f1 x.f2 y.f0 y.f1 y.f2 c _ hc).mono ?_
      rintro e wn ⟨rfl, hbn⟩
      refine ⟨_, rfl, ?_⟩
      have far1 := fun o v (hv : wr.cell? ⟨g, o, none⟩ = some v) => (hbn.cell (p := ⟨g, o, none⟩) (by have := hbw.size; show g < wr.heap.size; omega)).trans (show wr.drew.cell? ⟨g, o, none⟩ = some v from hv)
      have hIn := impl_ReverseSteps.kept hId hbn
      have hsn : w2.heap.size ≤ wn.heap.size := by have := hbw.size; have := hbn.size; have : wr.drew.heap.size = wr.heap.size := rfl; omega
      refine hK.out _ _ ⟨far1 (i * 3 + 0) _ (cx 0 _ rfl), far1 (i * 3 + 1) _ (cx 1 _ rfl), far1 (i * 3 + 2) _ (cx 2 _ rfl), far1 ((i + 1) * 3 + 0) _ (cy 0 _ rfl), far1 ((i + 1) * 3 + 1) _ (cy 1 _ rfl), far1 ((i + 1) * 3 + 2) _ (cy 2 _ rfl)⟩ (fun hHeld => ?_)
      clear hK K
      refine nm_ (some 47) ?_
      refine on_ HT_ 11 (some 48) (bv_ 12 4095) (fun K hK => ?_)
      refine gs_ Try.func81 #[.pointer (some ⟨w2.heap.size, 0, none⟩), .int .u8 c] ?_
      refine (impl_ReverseSteps.write w2.heap.size w2.heap.size _ c _ hIn (by rw [Lib.byteCells_length, List.length_map, List.length_range]; omega) hsn).mono ?_
      rintro e wm ⟨rfl, hIm, hbm⟩
      refine ⟨_, rfl, ?_⟩
      have far2 := fun o v (hv : wr.cell? ⟨g, o, none⟩ = some v) => (hbm.cell (p := ⟨g, o, none⟩) (by show g < w2.heap.size; omega)).trans (far1 o v hv)
      refine hK.out _ _ ⟨far2 (i * 3 + 0) _ (cx 0 _ rfl), far2 (i * 3 + 1) _ (cx 1 _ rfl), far2 (i * 3 + 2) _ (cx 2 _ rfl), far2 ((i + 1) * 3 + 0) _ (cy 0 _ rfl), far2 ((i + 1) * 3 + 1) _ (cy 1 _ rfl), far2 ((i + 1) * 3 + 2) _ (cy 2 _ rfl)⟩ (fun hHeld => ?_)
      clear hK K
      refine nm_ (some 48) ?_
      refine done_ (done_of HT_.out (by kernel_rfl)) ?_
      try go_wp2
      go_roundg (l.length - 1 - (i + 1))
      case measure => omega
      case rel =>
       refine ⟨i + 1, by simp only [Int.natCast_add, Int.natCast_one], by omega, ?_, ((hbw.trans ((below_drew1 (Below.refl _ wr)).mono (by have := hbw.size; omega))).trans (hbn.mono (by have := hbw.size; have : wr.drew.heap.size = wr.heap.size := rfl; omega))).trans hbm⟩
       have e : Lib.byteCells ((List.range (i + 1)).map (impl_ReverseSteps.byte k a0 l)) = Lib.byteCells ((List.range i).map (impl_ReverseSteps.byte k a0 l)) ++ [.int .u8 c] := by
        rw [List.range_succ, List.map_append, Lib.byteCells_append]
        congr 1
        have hat : impl_ReverseSteps.at_ k a0 l.reverse i = some c := by unfold impl_ReverseSteps.at_; rw [← HX.out, ← HY.out]; exact hc
        have hby : ((impl_ReverseSteps.byte k a0 l i).toNat : Int) = c := by
         unfold impl_ReverseSteps.byte
         rw [hat, Option.getD_some, UInt8.toNat_ofNat']
         omega
        show [Value.int .u8 _] = _
        rw [hby]
       rw [e]
       exact hIm
     ·have hlt3 : decide (((i + 1 : Nat) : Int) < (l.length : Int)) = false := decide_eq_false (by omega)
      obtain rfl : i = l.length - 1 := by omega
      have hsz : w2.heap.size ≤ wr.heap.size := by have := hbw.size; omega
      go_wp2_with (go_at_call 83; refine (impl_ReverseSteps.text w2.heap.size w2.heap.size _ _ hI hsz).mono ?_)
      rintro e w5 ⟨rfl, hb5⟩
      go_wp2
      go_ret2
      refine ⟨rfl, ?_⟩
      have h1 : Below w.heap.size w w3 := hbw2.grown hg3 hbw2.size (fun k_ hk => by rw [← Option.some.inj hk]; have := hbw1.size; omega)
      exact (h1.trans (hbw.mono (by have := hbw2.size; omega))).trans (hb5.mono (by have := hbw2.size; omega))
   ·rw [if_neg hk] at h; cases h
 ·rw [if_neg ct] at h
  injection h with h
  injection h with h1 h2
  subst h1 h2
  go_enter Try.func12, Try.ntmps12
  go_wp2_with (go_at_call 76; refine (impl_stepsCode.calls k a0 a1_0 a1_1 a1_2 a2 t _ ht).mono ?_; rintro e w1 ⟨rfl, hb1⟩)
  go_ret2
  exact ⟨rfl, ((Below.refl _ w).alloc (Nat.le_refl _) _).trans (hb1.mono (by simp))⟩
attribute [local go_sem high] eqA25
/-! ### spec_l10Digit: function 84 -/
def spec_l10Digit.l0 : Nat → Int → Int → Int → Int → Int → Int → Int → Int → Option (Int)
 | 0, _, _, _, _, _, _, _, _ => none
 | k + 1, x0, x7, x405000, x405001, x405002, x410000, x410001, x410002 => if x7 < x0 then ((spec_l01Child.f k x0 x410000 x410001 x410002 x7).bind fun bt410 => (if bt410.2.2.2 = true then (if (bt410.1 == x405000 && (bt410.2.1 == x405001 && (bt410.2.2.1 == x405002))) = true then (some x7) else (spec_l10Digit.l0 k x0 (wrap64 (x7 + 1)) x405000 x405001 x405002 x410000 x410001 x410002)) else (spec_l10Digit.l0 k x0 (wrap64 (x7 + 1)) x405000 x405001 x405002 x410000 x410001 x410002))) else (some 0)
def spec_l10Digit.f (k : Nat) (a0 : Int) (a1_0 : Int) (a1_1 : Int) (a1_2 : Int) : Option (Int) := (spec_l01Parent.f k a0 a1_0 a1_1 a1_2).bind fun bt405 => (spec_l10Digit.l0 k a0 0 a1_0 a1_1 a1_2 bt405.1 bt405.2.1 bt405.2.2.1)
theorem spec_l10Digit.calls (k : Nat) (a0 : Int) (a1_0 : Int) (a1_1 : Int) (a1_2 : Int) (r : Int) (w : World) (h : spec_l10Digit.f k a0 a1_0 a1_1 a1_2 = some r) :
  Calls Try.prog 84 #[.int .i64 a0, .agg #[.int .i64 a1_0, .int .i64 a1_1, .int .i64 a1_2]] w fun e w' => e = .returned (.int .i64 r) ∧ Below w.heap.size w w' := by
 have hu25 := Try.underlying25
 have HB := Aside0.mk (Below.refl w.heap.size w)
 have H : ((spec_l01Parent.f k a0 a1_0 a1_1 a1_2).bind fun bt405 => (spec_l10Digit.l0 k a0 0 a1_0 a1_1 a1_2 bt405.1 bt405.2.1 bt405.2.2.1)) = some r := h
 clear h
 replace H := ob_ H
 obtain ⟨⟨t405, t406, t407, t408⟩, A30, H⟩ := H
 have A3 := Aside0.mk A30
 clear A30
 have H' := Aside0.mk H
 clear H
 go_enter Try.func84, Try.ntmps84
 go_wp2_with (first | ((refine gd_ 3 ?_); refine bx_ 3 #[.int .i64 a1_0, .int .i64 a1_1, .int .i64 a1_2] 25 ?_; intro gb404 hg w4 BK404 hb; have GW404 := bs_ HB hg; have GE404 := bs_ HB hg; replace HB := bt_ HB hb; clear hb hg; obtain ⟨hcz5_0, hcz5_1, hcz5_2, hfz5_0, hfz5_1, hfz5_2⟩ := ch3_ BK404) | ((refine gc_ 152 ?_); refine ge_ 13 Try.func152 #[.int .i64 a0, .agg #[.int .i64 a1_0, .int .i64 a1_1, .int .i64 a1_2]] ?_; (with_reducible refine (spec_l01Parent.calls k a0 a1_0 a1_1 a1_2 t405 t406 t407 t408 _ A3.out).mono ?_); rintro e w6 ⟨rfl, hb⟩; refine ⟨_, rfl, ?_⟩; replace BK404 := bb_ BK404 hb; replace HB := bt_ HB hb; (try clear hb)) | ((refine gd_ 5 ?_); refine bx_ 5 #[.int .i64 0, .int .i64 0, .int .i64 0] 25 ?_; intro gb409 hg w7 BK409 hb; have GW409 := bs_ HB hg; have GE409 := bs_ HB hg; have NB404_409 := bm_ BK404 hg; have NB409_404 := bn_ BK404 hg; replace BK404 := bb_ BK404 hb; replace HB := bt_ HB hb; clear hb hg; have hnb8 := NB409_404.out; have hnc8 := NB404_409.out; obtain ⟨hcz9_0, hcz9_1, hcz9_2, hfz9_0, hfz9_1, hfz9_2⟩ := ch3_ BK409))
 go_loopg [7] k (fun kq v7 w' => ∃ (x7_1 : Int), v7 = .int .i64 x7_1 ∧ Aside0 (spec_l10Digit.l0 kq a0 x7_1 a1_0 a1_1 a1_2 t405 t406 t407 = some r) ∧ Aside0 (kq ≤ k) ∧ Aside0 (w'.heap[gb404]? = some (.cells #[.int .i64 a1_0, .int .i64 a1_1, .int .i64 a1_2] 25 (0, 0))) ∧ Aside0 (w'.heap[gb409]? = some (.cells #[.int .i64 t405, .int .i64 t406, .int .i64 t407] 25 (0, 0))) ∧ Aside0 (Below w.heap.size w w'))
 case atStart => exact ⟨(0), en_, H', ⟨Nat.le_refl _⟩, fl_ BK404 NB404_409, bp_ BK409, bw_ HB⟩
 case round =>
  clear H'
  try clear c1
  try clear p2
  try clear c8
  try clear hcz5_0 hcz5_1 hcz5_2
  try clear hcz9_0 hcz9_1 hcz9_2
  try clear hfz5_0 hfz5_1 hfz5_2
  try clear hfz9_0 hfz9_1 hfz9_2
  obtain ⟨x7_1, rfl, HA, HK1, BK404, BK409, HB⟩ := hrel
  cases gk with
  | zero => exact absurd HA.out (by simp [spec_l10Digit.l0])
  | succ k1 =>
   have H := HA.out
   clear HA
   simp only [spec_l10Digit.l0] at H
   by_cases c10 : x7_1 < a0
   ·rw [if_pos c10] at H
    have c10b0 : decide (x7_1 < a0) = true := decide_eq_true c10
    clear c10
    replace H := ob_ H
    obtain ⟨⟨t410, t411, t412, t413⟩, A110, H⟩ := H
    have A11 := Aside0.mk A110
    clear A110
    by_cases c12 : t413 = true
    ·subst c12
     have H1 : (if (t410 == a1_0 && (t411 == a1_1 && (t412 == a1_2))) = true then (some x7_1) else (spec_l10Digit.l0 k1 a0 (wrap64 (x7_1 + 1)) a1_0 a1_1 a1_2 t405 t406 t407)) = some r := by rw [if_pos rfl] at H; exact H
     clear H
     have H := H1
     clear H1
     by_cases c13 : (t410 == a1_0 && (t411 == a1_1 && (t412 == a1_2))) = true
     ·rw [if_pos c13] at H
      have c13b0 : (t410 == a1_0 && (t411 == a1_1 && (t412 == a1_2))) = true := c13
      (try (have c13b1 : decide (t410 = a1_0 && (t411 == a1_1 && (t412 == a1_2))) = true := by simpa using c13))
      (try (have c13b2 : (t410 == a1_0 && (t411 == a1_1 && (t412 == a1_2))) = true := by simpa using c13))
      clear c13
      obtain rfl := si_ H
      have hnb14 := NB409_404.out
      have hnc14 := NB404_409.out
      obtain ⟨hcz15_0, hcz15_1, hcz15_2, hfz15_0, hfz15_1, hfz15_2⟩ := ch3_ BK409
      go_wp2_with (first | ((refine gc_ 153 ?_); refine ge_ 25 Try.func153 #[.int .i64 a0, .agg #[.int .i64 t405, .int .i64 t406, .int .i64 t407], .int .i64 x7_1] ?_; (with_reducible refine (spec_l01Child.calls k1 a0 t405 t406 t407 x7_1 t410 t411 t412 true _ A11.out).mono ?_); rintro e w16 ⟨rfl, hb⟩; refine ⟨_, rfl, ?_⟩; replace BK404 := bb_ BK404 hb; replace BK409 := bb_ BK409 hb; replace HB := bt_ HB hb; (try clear hb)) | ((refine gd_ 8 ?_); refine bx_ 8 #[.int .i64 0, .int .i64 0, .int .i64 0] 25 ?_; intro gb414 hg w17 BK414 hb; have GW414 := bs_ HB hg; have GE414 := bs_ HB hg; have NB404_414 := bm_ BK404 hg; have NB414_404 := bn_ BK404 hg; have NB409_414 := bm_ BK409 hg; have NB414_409 := bn_ BK409 hg; replace BK404 := bb_ BK404 hb; replace BK409 := bb_ BK409 hb; replace HB := bt_ HB hb; clear hb hg; have hnb18 := NB414_404.out; have hnc18 := NB404_414.out; have hnb19 := NB414_409.out; have hnc19 := NB409_414.out; obtain ⟨hcz20_0, hcz20_1, hcz20_2, hfz20_0, hfz20_1, hfz20_2⟩ := ch3_ BK414; obtain ⟨hcz21_0, hcz21_1, hcz21_2, hfz21_0, hfz21_1, hfz21_2⟩ := ch3_ BK404))
      go_ret
      exact ⟨es_, (bw_ HB).out⟩
     ·rw [if_neg c13] at H
      have c13b0 : (t410 == a1_0 && (t411 == a1_1 && (t412 == a1_2))) = false := by simpa using c13
      (try (have c13b1 : decide (t410 = a1_0 && (t411 == a1_1 && (t412 == a1_2))) = false := by simpa using c13))
      (try (have c13b2 : (t410 == a1_0 && (t411 == a1_1 && (t412 == a1_2))) = false := by simpa using c13))
      (try (have c13b3 : ¬ (t410 = a1_0 && (t411 == a1_1 && (t412 == a1_2))) := by simpa using c13))
      clear c13
      have H' := Aside0.mk H
      clear H
      have hnb22 := NB409_404.out
      have hnc22 := NB404_409.out
      obtain ⟨hcz23_0, hcz23_1, hcz23_2, hfz23_0, hfz23_1, hfz23_2⟩ := ch3_ BK409
      go_wp2_with (first | ((refine gc_ 153 ?_); refine ge_ 25 Try.func153 #[.int .i64 a0, .agg #[.int .i64 t405, .int .i64 t406, .int .i64 t407], .int .i64 x7_1] ?_; (with_reducible refine (spec_l01Child.calls k1 a0 t405 t406 t407 x7_1 t410 t411 t412 true _ A11.out).mono ?_); rintro e w24 ⟨rfl, hb⟩; refine ⟨_, rfl, ?_⟩; replace BK404 := bb_ BK404 hb; replace BK409 := bb_ BK409 hb; replace HB := bt_ HB hb; (try clear hb)) | ((refine gd_ 8 ?_); refine bx_ 8 #[.int .i64 0, .int .i64 0, .int .i64 0] 25 ?_; intro gb414 hg w25 BK414 hb; have GW414 := bs_ HB hg; have GE414 := bs_ HB hg; have NB404_414 := bm_ BK404 hg; have NB414_404 := bn_ BK404 hg; have NB409_414 := bm_ BK409 hg; have NB414_409 := bn_ BK409 hg; replace BK404 := bb_ BK404 hb; replace BK409 := bb_ BK409 hb; replace HB := bt_ HB hb; clear hb hg; have hnb26 := NB414_404.out; have hnc26 := NB404_414.out; have hnb27 := NB414_409.out; have hnc27 := NB409_414.out; obtain ⟨hcz28_0, hcz28_1, hcz28_2, hfz28_0, hfz28_1, hfz28_2⟩ := ch3_ BK414; obtain ⟨hcz29_0, hcz29_1, hcz29_2, hfz29_0, hfz29_1, hfz29_2⟩ := ch3_ BK404))
      go_roundg k1
      case measure => have := HK1.out; omega
      case rel => exact ⟨(wrap64 (x7_1 + 1)), en_, H', ⟨by have := HK1.out; omega⟩, fl_ BK404 NB404_414, fl_ BK409 NB409_414, bw_ HB⟩
    ·replace c12 := Bool.eq_false_iff.mpr c12
     subst c12
     have H1 : (spec_l10Digit.l0 k1 a0 (wrap64 (x7_1 + 1)) a1_0 a1_1 a1_2 t405 t406 t407) = some r := by rw [if_neg (show ¬ (false = true) by decide)] at H; exact H
     clear H
     have H := H1
     clear H1
     have H' := Aside0.mk H
     clear H
     have hnb30 := NB409_404.out
     have hnc30 := NB404_409.out
     obtain ⟨hcz31_0, hcz31_1, hcz31_2, hfz31_0, hfz31_1, hfz31_2⟩ := ch3_ BK409
     go_wp2_with (first | ((refine gc_ 153 ?_); refine ge_ 25 Try.func153 #[.int .i64 a0, .agg #[.int .i64 t405, .int .i64 t406, .int .i64 t407], .int .i64 x7_1] ?_; (with_reducible refine (spec_l01Child.calls k1 a0 t405 t406 t407 x7_1 t410 t411 t412 false _ A11.out).mono ?_); rintro e w32 ⟨rfl, hb⟩; refine ⟨_, rfl, ?_⟩; replace BK404 := bb_ BK404 hb; replace BK409 := bb_ BK409 hb; replace HB := bt_ HB hb; (try clear hb)) | ((refine gd_ 8 ?_); refine bx_ 8 #[.int .i64 0, .int .i64 0, .int .i64 0] 25 ?_; intro gb414 hg w33 BK414 hb; have GW414 := bs_ HB hg; have GE414 := bs_ HB hg; have NB404_414 := bm_ BK404 hg; have NB414_404 := bn_ BK404 hg; have NB409_414 := bm_ BK409 hg; have NB414_409 := bn_ BK409 hg; replace BK404 := bb_ BK404 hb; replace BK409 := bb_ BK409 hb; replace HB := bt_ HB hb; clear hb hg; have hnb34 := NB414_404.out; have hnc34 := NB404_414.out; have hnb35 := NB414_409.out; have hnc35 := NB409_414.out; obtain ⟨hcz36_0, hcz36_1, hcz36_2, hfz36_0, hfz36_1, hfz36_2⟩ := ch3_ BK414))
     go_roundg k1
     case measure => have := HK1.out; omega
     case rel => exact ⟨(wrap64 (x7_1 + 1)), en_, H', ⟨by have := HK1.out; omega⟩, fl_ BK404 NB404_414, fl_ BK409 NB409_414, bw_ HB⟩
   ·rw [if_neg c10] at H
    have c10b0 : decide (x7_1 < a0) = false := decide_eq_false c10
    clear c10
    obtain rfl := si_ H
    go_wp2
    go_ret
    exact ⟨es_, (bw_ HB).out⟩
end Go.Proofs.Ytgoeelhiffbjlaa.QR
