import Derived.Test.YteniblbnmcfmjaaQMx6
namespace Go.Proofs.Yteniblbnmcfmjaa.QM
open Go.RowKit Go.Proofs.YteniblbnmcfmjaaW.PrintWords Go.Proofs.YteniblbnmcfmjaaW.PrintLast Go.Proofs.YteniblbnmcfmjaaW.PrintMore
attribute [local go_sem] isSome_setCell max2_int min2_int max_two min_two max_three min_three max_four min_four
set_option linter.unusedVariables false
set_option linter.unusedSimpArgs false

/-! ### spec_l04Draw: function 23 -/
mutual
def spec_l04Draw.j2 : Nat → List Int → Int → Int → Int → Int → Int → Int → Option (Int × Int × Int × Int × Int × Int)
 | 0, _, _, _, _, _, _, _ => none
 | k + 1, x1000, x1001, x1002, x111000, x111001, x111002, x111003 => (spec_l01Next.f x1000 x1001 x1002 9).bind fun bt115 => (if bt115.1 = 0 then ((spec_l01Pick.f x1000 bt115.2.1 bt115.2.2 (([2, 3, 4, 5, 9] : List Int))).bind fun bt121 => ((spec_l01Next.f x1000 bt121.2.1 bt121.2.2 5).bind fun bt124 => (spec_l04Draw.j3 k x1000 bt124.2.1 bt124.2.2 bt121.1 (wrap64 (bt124.1 - 2)) 0 1))) else (if bt115.1 = 1 then ((spec_l01Pick.f x1000 bt115.2.1 bt115.2.2 (([2, 3, 4, 7, 1] : List Int))).bind fun bt130 => (spec_l04Draw.j3 k x1000 bt130.2.1 bt130.2.2 1 0 0 bt130.1)) else (if bt115.1 = 2 then ((spec_l01Pick.f x1000 bt115.2.1 bt115.2.2 (([1, (-1), 2, 3] : List Int))).bind fun bt136 => (spec_l04Draw.j3 k x1000 bt136.2.1 bt136.2.2 0 bt136.1 1 0)) else (if bt115.1 = 3 then ((spec_l01Next.f x1000 bt115.2.1 bt115.2.2 2001).bind fun bt139 => ((spec_l01Next.f x1000 bt139.2.1 bt139.2.2 9).bind fun bt142 => ((spec_l01Next.f x1000 bt142.2.1 bt142.2.2 9).bind fun bt145 => ((spec_l01Next.f x1000 bt145.2.1 bt145.2.2 2001).bind fun bt148 => (spec_l04Draw.j3 k x1000 bt148.2.1 bt148.2.2 (wrap64 (bt139.1 - 1000)) bt142.1 bt145.1 (wrap64 (bt148.1 - 1000))))))) else (if bt115.1 = 4 then ((spec_l01Next.f x1000 bt115.2.1 bt115.2.2 7).bind fun bt151 => (spec_l04Draw.j3 k x1000 bt151.2.1 bt151.2.2 1 (wrap64 (bt151.1 - 3)) 0 1)) else (spec_l04Draw.j3 k x1000 bt115.2.1 bt115.2.2 x111000 x111001 x111002 x111003))))))
def spec_l04Draw.j3 : Nat → List Int → Int → Int → Int → Int → Int → Int → Option (Int × Int × Int × Int × Int × Int)
 | 0, _, _, _, _, _, _, _ => none
 | k + 1, x1000, x1001, x1002, x111000, x111001, x111002, x111003 => (spec_l01Next.f x1000 x1001 x1002 40).bind fun bt154 => (if bt154.1 = 0 then (some (1001, x111001, x111002, x111003, bt154.2.1, bt154.2.2)) else (if bt154.1 = 1 then (some (x111000, x111001, x111000, x111001, bt154.2.1, bt154.2.2)) else (some (x111000, x111001, x111002, x111003, bt154.2.1, bt154.2.2))))
def spec_l04Draw.l0 : Nat → Int → List Int → Int → Int → Int → Int → Int → Int → Option (Int × Int × Int × Int × Int × Int)
 | 0, _, _, _, _, _, _, _, _ => none
 | k + 1, x4, x1000, x1001, x1002, x111000, x111001, x111002, x111003 => if x4 < 5 then (spec_l04Draw.l1 k x4 0 x1000 x1001 x1002 x111000 x111001 x111002 x111003) else (spec_l04Draw.j2 k x1000 x1001 x1002 x111000 x111001 x111002 x111003)
def spec_l04Draw.l1 : Nat → Int → Int → List Int → Int → Int → Int → Int → Int → Int → Option (Int × Int × Int × Int × Int × Int)
 | 0, _, _, _, _, _, _, _, _, _ => none
 | k + 1, x4, x5, x1000, x1001, x1002, x111000, x111001, x111002, x111003 => if x5 < 4 then ((spec_l01Next.f x1000 x1001 x1002 11).bind fun bt111 => (if x5 = 0 then (spec_l04Draw.l1 k x4 (wrap64 (x5 + 1)) x1000 bt111.2.1 bt111.2.2 (wrap64 (bt111.1 - 5)) x111001 x111002 x111003) else (if x5 = 1 then (spec_l04Draw.l1 k x4 (wrap64 (x5 + 1)) x1000 bt111.2.1 bt111.2.2 x111000 (wrap64 (bt111.1 - 5)) x111002 x111003) else (if x5 = 2 then (spec_l04Draw.l1 k x4 (wrap64 (x5 + 1)) x1000 bt111.2.1 bt111.2.2 x111000 x111001 (wrap64 (bt111.1 - 5)) x111003) else (if x5 = 3 then (spec_l04Draw.l1 k x4 (wrap64 (x5 + 1)) x1000 bt111.2.1 bt111.2.2 x111000 x111001 x111002 (wrap64 (bt111.1 - 5))) else (none)))))) else ((spec_l04Det.f x111000 x111001 x111002 x111003).bind fun t114 => (if t114 = 0 then (spec_l04Draw.l0 k (wrap64 (x4 + 1)) x1000 x1001 x1002 x111000 x111001 x111002 x111003) else (spec_l04Draw.j2 k x1000 x1001 x1002 x111000 x111001 x111002 x111003)))
end
def spec_l04Draw.f (k : Nat) (s0_0 : List Int) (s0_1 s0_2 : Int) : Option (Int × Int × Int × Int × Int × Int) := spec_l04Draw.l0 k 0 s0_0 s0_1 s0_2 0 0 0 0
def spec_l04Draw.T8 : Bool × List (List Nat × List Nat) := (true, [([], []), ([0], [0]), ([], []), ([2], [2]), ([], []), ([4], [4]), ([5], [5]), ([1], [1]), ([7, 3, 0, 1, 2, 3, 4, 5, 6], [3, 7]), ([8, 6, 5, 0, 1, 2, 3, 4, 5, 6], [6, 8])])
def spec_l04Draw.B8 : List Nat := [0, 1, 0, 4, 0, 16, 48, 3, 255, 511]
theorem spec_l04Draw.tab8 : rtab .any (opsOf Try.f23 8) = spec_l04Draw.T8 := by kernel_rfl
theorem spec_l04Draw.bits8 : waitsOk spec_l04Draw.T8.2 spec_l04Draw.B8 = true := by kernel_rfl
set_option maxHeartbeats 8000000 in
set_option maxRecDepth 100000 in
theorem spec_l04Draw.calls (k g : Nat) (s0_0 : List Int) (s0_1 s0_2 r1 r2 r3 r4 r5 r6 : Int) (w0 w : World) (hI : IsS55 w0 w g s0_0 s0_1 s0_2) (hB : Below w0.heap.size w0 w) (h : spec_l04Draw.f k s0_0 s0_1 s0_2 = some (r1, r2, r3, r4, r5, r6)) :
  Calls Try.prog 23 #[.pointer (some ⟨g, 0, none⟩)] w fun e w' => e = .returned (.agg #[.int .i64 r1, .int .i64 r2, .int .i64 r3, .int .i64 r4]) ∧ IsS55 w0 w' g s0_0 r5 r6 ∧ Below w0.heap.size w0 w' ∧ KeepBut w w' g none := by
 have hu26 := Try.underlying26
 have hu24 := Try.underlying24
 have HI0 := Aside0.mk hI
 have HK := Aside0.mk (KeepBut.refl w g none)
 have HL := Aside0.mk hB.size
 clear hI
 have HW0 := Aside0.mk hB.size
 have HB := Aside0.mk hB
 clear hB
 unfold spec_l04Draw.f at h
 have H := h
 clear h
 have HC2 := Aside0.mk H
 clear H
 go_enter Try.func23, Try.ntmps23
 go_upto_block 0 with (first | ((refine gd_ 2 ?_); refine bx_ 2 #[.int .i64 0, .int .i64 0, .int .i64 0, .int .i64 0] 26 ?_; intro gb109 hg w3 BK109 hb; have GW109 := Aside0.mk ((by rw [hg]; exact (keep_size (w := w) (g := g) (row := none) (by repeat (first | (with_reducible first | exact HK.out | apply KeepBut.set_ | apply keep_drewN | apply keep_drew | apply keep_alloc) | exact HK.out))) : w.heap.size ≤ gb109)); have GE109 := Aside0.mk ((Nat.le_trans HW0.out (by rw [hg]; exact (keep_size (w := w) (g := g) (row := none) (by repeat (first | (with_reducible first | exact HK.out | apply KeepBut.set_ | apply keep_drewN | apply keep_drew | apply keep_alloc) | exact HK.out))) : w.heap.size ≤ gb109) : w0.heap.size ≤ gb109)); have NB0_109 := Aside0.mk ((by rw [hg]; exact Nat.ne_of_lt (IsS55.lt (show IsS55 w0 _ g s0_0 s0_1 s0_2 from by repeat (first | (with_reducible first | exact HI0.out | apply IsS55.alloc | apply IsS55.drewN | apply IsS55.drew | apply IsS55.set_1 | apply IsS55.set_2) | exact HI0.out))) : g ≠ gb109)); have NB109_0 := Aside0.mk ((by rw [hg]; exact Nat.ne_of_gt (IsS55.lt (show IsS55 w0 _ g s0_0 s0_1 s0_2 from by repeat (first | (with_reducible first | exact HI0.out | apply IsS55.alloc | apply IsS55.drewN | apply IsS55.drew | apply IsS55.set_1 | apply IsS55.set_2) | exact HI0.out))) : gb109 ≠ g)); replace HK := Aside0.mk (KeepBut.trans (by repeat (first | (with_reducible first | exact HK.out | apply KeepBut.set_ | apply keep_drewN | apply keep_drew | apply keep_alloc) | exact HK.out)) (KeepBut.of_below hb g none) (.inl rfl)); replace HB := Aside0.mk (below_step (by repeat (first | (with_reducible first | exact HB.out | apply below_alloc | apply pw_below_drewN | apply below_drew1 | refine below_set ?_ (IsS55.ge HI0.out)) | exact HB.out)) hb); replace HI0 := Aside0.mk (IsS55.below (by repeat (first | (with_reducible first | exact HI0.out | apply IsS55.alloc | apply IsS55.drewN | apply IsS55.drew | apply IsS55.set_1 | apply IsS55.set_2) | exact HI0.out)) hb); clear hb hg) | ((refine gd_ 3 ?_); refine bx_ 3 #[.int .i64 0, .int .i64 0, .int .i64 0, .int .i64 0] 26 ?_; intro gb110 hg w4 BK110 hb; have GW110 := Aside0.mk ((by rw [hg]; exact (keep_size (w := w) (g := g) (row := none) (by repeat (first | (with_reducible first | exact HK.out | apply KeepBut.set_ | apply keep_drewN | apply keep_drew | apply keep_alloc | refine keep_far ?_ GW109.out _) | exact HK.out))) : w.heap.size ≤ gb110)); have GE110 := Aside0.mk ((Nat.le_trans HW0.out (by rw [hg]; exact (keep_size (w := w) (g := g) (row := none) (by repeat (first | (with_reducible first | exact HK.out | apply KeepBut.set_ | apply keep_drewN | apply keep_drew | apply keep_alloc | refine keep_far ?_ GW109.out _) | exact HK.out))) : w.heap.size ≤ gb110) : w0.heap.size ≤ gb110)); have NB109_110 := bm_ BK109 hg; have NB110_109 := bn_ BK109 hg; have NB0_110 := Aside0.mk ((by rw [hg]; exact Nat.ne_of_lt (IsS55.lt (show IsS55 w0 _ g s0_0 s0_1 s0_2 from by repeat (first | (with_reducible first | exact HI0.out | apply IsS55.alloc | apply IsS55.drewN | apply IsS55.drew | apply IsS55.set_1 | apply IsS55.set_2 | refine IsS55.far ?_ NB0_109.out _) | exact HI0.out))) : g ≠ gb110)); have NB110_0 := Aside0.mk ((by rw [hg]; exact Nat.ne_of_gt (IsS55.lt (show IsS55 w0 _ g s0_0 s0_1 s0_2 from by repeat (first | (with_reducible first | exact HI0.out | apply IsS55.alloc | apply IsS55.drewN | apply IsS55.drew | apply IsS55.set_1 | apply IsS55.set_2 | refine IsS55.far ?_ NB0_109.out _) | exact HI0.out))) : gb110 ≠ g)); replace BK109 := bb_ BK109 hb; replace HK := Aside0.mk (KeepBut.trans (by repeat (first | (with_reducible first | exact HK.out | apply KeepBut.set_ | apply keep_drewN | apply keep_drew | apply keep_alloc | refine keep_far ?_ GW109.out _) | exact HK.out)) (KeepBut.of_below hb g none) (.inl rfl)); replace HB := Aside0.mk (below_step (by repeat (first | (with_reducible first | exact HB.out | apply below_alloc | apply pw_below_drewN | apply below_drew1 | refine below_set ?_ (IsS55.ge HI0.out) | refine below_set ?_ GE109.out) | exact HB.out)) hb); replace HI0 := Aside0.mk (IsS55.below (by repeat (first | (with_reducible first | exact HI0.out | apply IsS55.alloc | apply IsS55.drewN | apply IsS55.drew | apply IsS55.set_1 | apply IsS55.set_2 | refine IsS55.far ?_ NB0_109.out _) | exact HI0.out)) hb); clear hb hg; have hnb5 := NB110_109.out; have hnc5 := NB109_110.out; have hnb6 := NB110_0.out; have hnc6 := NB0_110.out; obtain ⟨hcz7_0, hcz7_1, hcz7_2, hcz7_3, hfz7_0, hfz7_1, hfz7_2, hfz7_3⟩ := ch4_ BK110))
 (try simp only [Act.put, lstS, lstZ, lstC])
 go_cut [] (fun wc => ∃ (kq : Nat) (x1001_1 : Int) (x1002_1 : Int) (x111000_1 : Int) (x111001_1 : Int) (x111002_1 : Int) (x111003_1 : Int), Aside0 (spec_l04Draw.j2 kq s0_0 x1001_1 x1002_1 x111000_1 x111001_1 x111002_1 x111003_1 = some (r1, r2, r3, r4, r5, r6)) ∧ Aside0 (kq ≤ k) ∧ Aside0 (wc.heap[gb109]? = some (.cells #[.int .i64 0, .int .i64 0, .int .i64 0, .int .i64 0] 26 (0, 0))) ∧ Aside0 (wc.heap[gb110]? = some (.cells #[.int .i64 x111000_1, .int .i64 x111001_1, .int .i64 x111002_1, .int .i64 x111003_1] 26 (0, 0))) ∧ Aside0 (IsS55 w0 wc g s0_0 x1001_1 x1002_1) ∧ Aside0 (KeepBut w wc g none) ∧ Aside0 (Below w0.heap.size w0 wc))
 case first =>
  have H := HC2.out
  clear HC2
  have H' := Aside0.mk H
  clear H
  go_wp2
  go_loopg [4] k (fun kq v4 w' => ∃ (x4_1 : Int) (x1001_1 : Int) (x1002_1 : Int) (x111000_1 : Int) (x111001_1 : Int) (x111002_1 : Int) (x111003_1 : Int), v4 = .int .i64 x4_1 ∧ Aside0 (spec_l04Draw.l0 kq x4_1 s0_0 x1001_1 x1002_1 x111000_1 x111001_1 x111002_1 x111003_1 = some (r1, r2, r3, r4, r5, r6)) ∧ Aside0 (kq ≤ k) ∧ Aside0 (w'.heap[gb109]? = some (.cells #[.int .i64 0, .int .i64 0, .int .i64 0, .int .i64 0] 26 (0, 0))) ∧ Aside0 (w'.heap[gb110]? = some (.cells #[.int .i64 x111000_1, .int .i64 x111001_1, .int .i64 x111002_1, .int .i64 x111003_1] 26 (0, 0))) ∧ Aside0 (IsS55 w0 w' g s0_0 x1001_1 x1002_1) ∧ Aside0 (KeepBut w w' g none) ∧ Aside0 (Below w0.heap.size w0 w'))
  case atStart => exact ⟨(0), (s0_1), (s0_2), (0), (0), (0), (0), en_, H', ⟨Nat.le_refl _⟩, fl_ BK109 NB109_110, bp_ BK110, ⟨by repeat (first | (with_reducible first | exact HI0.out | apply IsS55.alloc | apply IsS55.drewN | apply IsS55.drew | apply IsS55.set_1 | apply IsS55.set_2 | refine IsS55.far ?_ NB0_109.out _ | refine IsS55.far ?_ NB0_110.out _) | exact HI0.out)⟩, ⟨by repeat (first | (with_reducible first | exact HK.out | apply KeepBut.set_ | apply keep_drewN | apply keep_drew | apply keep_alloc | refine keep_far ?_ GW109.out _ | refine keep_far ?_ GW110.out _) | exact HK.out)⟩, ⟨by repeat (first | (with_reducible first | exact HB.out | apply below_alloc | apply pw_below_drewN | apply below_drew1 | refine below_set ?_ (IsS55.ge HI0.out) | refine below_set ?_ GE109.out | refine below_set ?_ GE110.out) | exact HB.out)⟩⟩
  clear H'
  try clear hcz7_0 hcz7_1 hcz7_2 hcz7_3
  try clear hfz7_0 hfz7_1 hfz7_2 hfz7_3
  obtain ⟨x4_1, x1001_1, x1002_1, x111000_1, x111001_1, x111002_1, x111003_1, rfl, HA, HK1, BK109, BK110, HI0, HK, HB⟩ := hrel
  cases gk with
  | zero => exact absurd HA.out (by simp [spec_l04Draw.l0])
  | succ k1 =>
   have H := HA.out
   clear HA
   simp only [spec_l04Draw.l0] at H
   replace H := il_ H
   rcases H with ⟨c8b0, H⟩ | ⟨c8b0, H⟩
   ·(first | rw [c8b0] | (simp only [i64_w, i32_w]; rw [c8b0]) | skip)
    have H' := Aside0.mk H
    clear H
    go_wp2
    go_loopg [5] k1 (fun kq v5 w' => ∃ (x5_2 : Int) (x1001_2 : Int) (x1002_2 : Int) (x111000_2 : Int) (x111001_2 : Int) (x111002_2 : Int) (x111003_2 : Int), v5 = .int .i64 x5_2 ∧ Aside0 (spec_l04Draw.l1 kq x4_1 x5_2 s0_0 x1001_2 x1002_2 x111000_2 x111001_2 x111002_2 x111003_2 = some (r1, r2, r3, r4, r5, r6)) ∧ Aside0 (kq ≤ k1) ∧ Aside0 (w'.heap[gb109]? = some (.cells #[.int .i64 0, .int .i64 0, .int .i64 0, .int .i64 0] 26 (0, 0))) ∧ Aside0 (w'.heap[gb110]? = some (.cells #[.int .i64 x111000_2, .int .i64 x111001_2, .int .i64 x111002_2, .int .i64 x111003_2] 26 (0, 0))) ∧ Aside0 (IsS55 w0 w' g s0_0 x1001_2 x1002_2) ∧ Aside0 (KeepBut w w' g none) ∧ Aside0 (Below w0.heap.size w0 w'))
    case atStart => exact ⟨(0), (x1001_1), (x1002_1), (x111000_1), (x111001_1), (x111002_1), (x111003_1), en_, H', ⟨Nat.le_refl _⟩, bl_ BK109, bl_ BK110, ⟨by repeat (first | (with_reducible first | exact HI0.out | apply IsS55.alloc | apply IsS55.drewN | apply IsS55.drew | apply IsS55.set_1 | apply IsS55.set_2 | refine IsS55.far ?_ NB0_109.out _ | refine IsS55.far ?_ NB0_110.out _) | exact HI0.out)⟩, ⟨by repeat (first | (with_reducible first | exact HK.out | apply KeepBut.set_ | apply keep_drewN | apply keep_drew | apply keep_alloc | refine keep_far ?_ GW109.out _ | refine keep_far ?_ GW110.out _) | exact HK.out)⟩, ⟨by repeat (first | (with_reducible first | exact HB.out | apply below_alloc | apply pw_below_drewN | apply below_drew1 | refine below_set ?_ (IsS55.ge HI0.out) | refine below_set ?_ GE109.out | refine below_set ?_ GE110.out) | exact HB.out)⟩⟩
    clear H'
    try clear c8b0
    try clear hcz7_0 hcz7_1 hcz7_2 hcz7_3
    try clear hfz7_0 hfz7_1 hfz7_2 hfz7_3
    obtain ⟨x5_2, x1001_2, x1002_2, x111000_2, x111001_2, x111002_2, x111003_2, rfl, HA, HK2, BK109, BK110, HI0, HK, HB⟩ := hrel
    cases gk with
    | zero => exact absurd HA.out (by simp [spec_l04Draw.l1])
    | succ k2 =>
     have H := HA.out
     clear HA
     simp only [spec_l04Draw.l1] at H
     replace H := il_ H
     rcases H with ⟨c9b0, H⟩ | ⟨c9b0, H⟩
     ·replace H := oc_ H
      obtain ⟨⟨t111, t112, t113⟩, A10, H⟩ := H
      by_cases c11 : x5_2 = 0
      ·subst c11
       replace H := i1_ H
       have H' := Aside0.mk H
       clear H
       try go_wp2
       (try (rw [drewN_self wr]; generalize hq_ : World.drewN wr _ = wr; have n0_ := bq_ BK109 hq_; have n1_ := bq_ BK110 hq_; have n2_ : Aside0 (IsS55 w0 wr g s0_0 x1001_2 x1002_2) := ⟨by rw [← hq_]; exact (by repeat (first | (with_reducible first | exact HI0.out | apply IsS55.alloc | apply IsS55.drewN | apply IsS55.drew | apply IsS55.set_1 | apply IsS55.set_2 | refine IsS55.far ?_ NB0_109.out _ | refine IsS55.far ?_ NB0_110.out _) | exact HI0.out))⟩; have n3_ : Aside0 (KeepBut w wr g none) := ⟨by rw [← hq_]; exact (by repeat (first | (with_reducible first | exact HK.out | apply KeepBut.set_ | apply keep_drewN | apply keep_drew | apply keep_alloc | refine keep_far ?_ GW109.out _ | refine keep_far ?_ GW110.out _) | exact HK.out))⟩; have n4_ : Aside0 (Below w0.heap.size w0 wr) := ⟨by rw [← hq_]; exact (by repeat (first | (with_reducible first | exact HB.out | apply below_alloc | apply pw_below_drewN | apply below_drew1 | refine below_set ?_ (IsS55.ge HI0.out) | refine below_set ?_ GE109.out | refine below_set ?_ GE110.out) | exact HB.out))⟩; clear BK109 BK110 HI0 HK HB hq_; have BK109 := n0_; have BK110 := n1_; have HI0 := n2_; have HK := n3_; have HB := n4_; clear n0_ n1_ n2_ n3_ n4_))
       replace BK109 := bd_ BK109
       replace BK110 := bd_ BK110
       replace HI0 := Aside0.mk (IsS55.drew HI0.out)
       replace HK := Aside0.mk (keep_drew HK.out)
       replace HB := be_ HB
       refine start_ (n := 10) (S := fun w' => True) (ds := []) (bv_ 10 0) (by kernel_rfl) rfl rfl trivial (fun hHeld => ?_); refine with_tabW spec_l04Draw.tab8 spec_l04Draw.bits8 (fun HT_ HW_ => ?_)
       generalize wr.drew = w12 at BK109 BK110 HI0 HK HB hHeld ⊢
       refine px_ HT_ 0 15 1 ?_
       refine px_ HT_ 1 16 3 ?_
       refine px_ HT_ 2 17 7 ?_
       refine px_ HT_ 3 18 15 ?_
       refine px_ HT_ 4 19 31 ?_
       refine px_ HT_ 7 22 159 ?_
       refine on_ HT_ 5 (some 20) (bv_ 10 191) (fun K hK => ?_)
       refine gs_ Try.func36 #[.pointer (some ⟨g, 0, none⟩), .int .i64 11] ?_
       with_reducible refine (spec_l01Next.calls g s0_0 x1001_2 x1002_2 11 t111 t112 t113 w0 _ ?side1 ?side2 A10.out).mono ?_
       (case side1 => repeat (first | (with_reducible first | exact HI0.out | apply IsS55.alloc | apply IsS55.drewN | apply IsS55.drew | apply IsS55.set_1 | apply IsS55.set_2 | refine IsS55.far ?_ NB0_109.out _ | refine IsS55.far ?_ NB0_110.out _) | exact HI0.out))
       (case side2 => repeat (first | (with_reducible first | exact HB.out | apply below_alloc | apply pw_below_drewN | apply below_drew1 | refine below_set ?_ (IsS55.ge HI0.out) | refine below_set ?_ GE109.out | refine below_set ?_ GE110.out) | exact HB.out))
       rintro e w13 ⟨rfl, hi, hb, hk⟩
       refine ⟨_, rfl, ?_⟩
       replace BK109 := Aside0.mk (KeepBut.blk hk (g' := gb109) (o := .cells #[.int .i64 0, .int .i64 0, .int .i64 0, .int .i64 0] 26 (0, 0)) (bl_ BK109).out NB109_0.out (by simp))
       replace BK110 := Aside0.mk (KeepBut.blk hk (g' := gb110) (o := .cells #[.int .i64 x111000_2, .int .i64 x111001_2, .int .i64 x111002_2, .int .i64 x111003_2] 26 (0, 0)) (bl_ BK110).out NB110_0.out (by simp))
       replace HK := Aside0.mk (KeepBut.trans (by repeat (first | (with_reducible first | exact HK.out | apply KeepBut.set_ | apply keep_drewN | apply keep_drew | apply keep_alloc | refine keep_far ?_ GW109.out _ | refine keep_far ?_ GW110.out _) | exact HK.out)) hk (.inl rfl))
       replace HB := Aside0.mk (hb)
       replace HI0 := Aside0.mk (hi)
       try clear hb
       try clear hk
       try clear hi
       refine hK.out _ _ trivial (fun hHeld => ?_)
       clear hK K
       refine nm_ (some 20) ?_
       refine px_ HT_ 6 21 255 ?_
       refine px_ HT_ 8 23 511 ?_
       refine on_ HT_ 9 none (bv_ 10 1023) (fun K hK => ?_)
       have hs14 : w13.cell? ⟨gb110, 0, none⟩ = some (.int .i64 x111000_2) := (blk_cell BK110.out 0).trans rfl
       have hfs14 := blk_frozen BK110.out 0
       have hns14_0 := NB109_110.out
       have hms14_0 := NB110_109.out
       refine skip_ (w1 := ?_) (by rfl) rfl ?_ ?_
       rotate_left
       ·go_simp
        rfl
       refine hK.out _ _ trivial (fun hHeld => ?_)
       clear hK K
       refine done_ (done_of HT_.out (by kernel_rfl)) ?_
       try go_wp2
       go_roundg k2
       case measure => have := HK1.out; have := HK2.out; omega
       case rel => exact ⟨(wrap64 (0 + 1)), (t112), (t113), (wrap64 (t111 - 5)), (x111001_2), (x111002_2), (x111003_2), en_, H', ⟨by have := HK1.out; have := HK2.out; omega⟩, fl_ BK109 NB109_110, bp_ BK110, ⟨by repeat (first | (with_reducible first | exact HI0.out | apply IsS55.alloc | apply IsS55.drewN | apply IsS55.drew | apply IsS55.set_1 | apply IsS55.set_2 | refine IsS55.far ?_ NB0_109.out _ | refine IsS55.far ?_ NB0_110.out _) | exact HI0.out)⟩, ⟨by repeat (first | (with_reducible first | exact HK.out | apply KeepBut.set_ | apply keep_drewN | apply keep_drew | apply keep_alloc | refine keep_far ?_ GW109.out _ | refine keep_far ?_ GW110.out _) | exact HK.out)⟩, ⟨by repeat (first | (with_reducible first | exact HB.out | apply below_alloc | apply pw_below_drewN | apply below_drew1 | refine below_set ?_ (IsS55.ge HI0.out) | refine below_set ?_ GE109.out | refine below_set ?_ GE110.out) | exact HB.out)⟩⟩
      rw [if_neg c11] at H
      have c11b0 : (x5_2 == 0) = false := beq_eq_false_iff_ne.mpr c11
      have c11b1 : (x5_2 != 0) = true := bne_iff_ne.mpr c11
      by_cases c15 : x5_2 = 1
      ·subst c15
       replace H := i1_ H
       have H' := Aside0.mk H
       clear H
       try go_wp2
       (try (rw [drewN_self wr]; generalize hq_ : World.drewN wr _ = wr; have n0_ := bq_ BK109 hq_; have n1_ := bq_ BK110 hq_; have n2_ : Aside0 (IsS55 w0 wr g s0_0 x1001_2 x1002_2) := ⟨by rw [← hq_]; exact (by repeat (first | (with_reducible first | exact HI0.out | apply IsS55.alloc | apply IsS55.drewN | apply IsS55.drew | apply IsS55.set_1 | apply IsS55.set_2 | refine IsS55.far ?_ NB0_109.out _ | refine IsS55.far ?_ NB0_110.out _) | exact HI0.out))⟩; have n3_ : Aside0 (KeepBut w wr g none) := ⟨by rw [← hq_]; exact (by repeat (first | (with_reducible first | exact HK.out | apply KeepBut.set_ | apply keep_drewN | apply keep_drew | apply keep_alloc | refine keep_far ?_ GW109.out _ | refine keep_far ?_ GW110.out _) | exact HK.out))⟩; have n4_ : Aside0 (Below w0.heap.size w0 wr) := ⟨by rw [← hq_]; exact (by repeat (first | (with_reducible first | exact HB.out | apply below_alloc | apply pw_below_drewN | apply below_drew1 | refine below_set ?_ (IsS55.ge HI0.out) | refine below_set ?_ GE109.out | refine below_set ?_ GE110.out) | exact HB.out))⟩; clear BK109 BK110 HI0 HK HB hq_; have BK109 := n0_; have BK110 := n1_; have HI0 := n2_; have HK := n3_; have HB := n4_; clear n0_ n1_ n2_ n3_ n4_))
       replace BK109 := bd_ BK109
       replace BK110 := bd_ BK110
       replace HI0 := Aside0.mk (IsS55.drew HI0.out)
       replace HK := Aside0.mk (keep_drew HK.out)
       replace HB := be_ HB
       refine start_ (n := 10) (S := fun w' => True) (ds := []) (bv_ 10 0) (by kernel_rfl) rfl rfl trivial (fun hHeld => ?_); refine with_tabW spec_l04Draw.tab8 spec_l04Draw.bits8 (fun HT_ HW_ => ?_)
       generalize wr.drew = w16 at BK109 BK110 HI0 HK HB hHeld ⊢
       refine px_ HT_ 0 15 1 ?_
       refine px_ HT_ 1 16 3 ?_
       refine px_ HT_ 2 17 7 ?_
       refine px_ HT_ 3 18 15 ?_
       refine px_ HT_ 4 19 31 ?_
       refine px_ HT_ 7 22 159 ?_
       refine on_ HT_ 5 (some 20) (bv_ 10 191) (fun K hK => ?_)
       refine gs_ Try.func36 #[.pointer (some ⟨g, 0, none⟩), .int .i64 11] ?_
       with_reducible refine (spec_l01Next.calls g s0_0 x1001_2 x1002_2 11 t111 t112 t113 w0 _ ?side1 ?side2 A10.out).mono ?_
       (case side1 => repeat (first | (with_reducible first | exact HI0.out | apply IsS55.alloc | apply IsS55.drewN | apply IsS55.drew | apply IsS55.set_1 | apply IsS55.set_2 | refine IsS55.far ?_ NB0_109.out _ | refine IsS55.far ?_ NB0_110.out _) | exact HI0.out))
       (case side2 => repeat (first | (with_reducible first | exact HB.out | apply below_alloc | apply pw_below_drewN | apply below_drew1 | refine below_set ?_ (IsS55.ge HI0.out) | refine below_set ?_ GE109.out | refine below_set ?_ GE110.out) | exact HB.out))
       rintro e w17 ⟨rfl, hi, hb, hk⟩
       refine ⟨_, rfl, ?_⟩
       replace BK109 := Aside0.mk (KeepBut.blk hk (g' := gb109) (o := .cells #[.int .i64 0, .int .i64 0, .int .i64 0, .int .i64 0] 26 (0, 0)) (bl_ BK109).out NB109_0.out (by simp))
       replace BK110 := Aside0.mk (KeepBut.blk hk (g' := gb110) (o := .cells #[.int .i64 x111000_2, .int .i64 x111001_2, .int .i64 x111002_2, .int .i64 x111003_2] 26 (0, 0)) (bl_ BK110).out NB110_0.out (by simp))
       replace HK := Aside0.mk (KeepBut.trans (by repeat (first | (with_reducible first | exact HK.out | apply KeepBut.set_ | apply keep_drewN | apply keep_drew | apply keep_alloc | refine keep_far ?_ GW109.out _ | refine keep_far ?_ GW110.out _) | exact HK.out)) hk (.inl rfl))
       replace HB := Aside0.mk (hb)
       replace HI0 := Aside0.mk (hi)
       try clear hb
       try clear hk
       try clear hi
       refine hK.out _ _ trivial (fun hHeld => ?_)
       clear hK K
       refine nm_ (some 20) ?_
       refine px_ HT_ 6 21 255 ?_
       refine px_ HT_ 8 23 511 ?_
       refine on_ HT_ 9 none (bv_ 10 1023) (fun K hK => ?_)
       have hs18 : w17.cell? ⟨gb110, 1, none⟩ = some (.int .i64 x111001_2) := (blk_cell BK110.out 1).trans rfl
       have hfs18 := blk_frozen BK110.out 1
       have hns18_0 := NB109_110.out
       have hms18_0 := NB110_109.out
       refine skip_ (w1 := ?_) (by rfl) rfl ?_ ?_
       rotate_left
       ·go_simp
        rfl
       refine hK.out _ _ trivial (fun hHeld => ?_)
       clear hK K
       refine done_ (done_of HT_.out (by kernel_rfl)) ?_
       try go_wp2
       go_roundg k2
       case measure => have := HK1.out; have := HK2.out; omega
       case rel => exact ⟨(wrap64 (1 + 1)), (t112), (t113), (x111000_2), (wrap64 (t111 - 5)), (x111002_2), (x111003_2), en_, H', ⟨by have := HK1.out; have := HK2.out; omega⟩, fl_ BK109 NB109_110, bp_ BK110, ⟨by repeat (first | (with_reducible first | exact HI0.out | apply IsS55.alloc | apply IsS55.drewN | apply IsS55.drew | apply IsS55.set_1 | apply IsS55.set_2 | refine IsS55.far ?_ NB0_109.out _ | refine IsS55.far ?_ NB0_110.out _) | exact HI0.out)⟩, ⟨by repeat (first | (with_reducible first | exact HK.out | apply KeepBut.set_ | apply keep_drewN | apply keep_drew | apply keep_alloc | refine keep_far ?_ GW109.out _ | refine keep_far ?_ GW110.out _) | exact HK.out)⟩, ⟨by repeat (first | (with_reducible first | exact HB.out | apply below_alloc | apply pw_below_drewN | apply below_drew1 | refine below_set ?_ (IsS55.ge HI0.out) | refine below_set ?_ GE109.out | refine below_set ?_ GE110.out) | exact HB.out)⟩⟩
      rw [if_neg c15] at H
      have c15b0 : (x5_2 == 1) = false := beq_eq_false_iff_ne.mpr c15
      have c15b1 : (x5_2 != 1) = true := bne_iff_ne.mpr c15
      by_cases c19 : x5_2 = 2
      ·subst c19
       replace H := i1_ H
       have H' := Aside0.mk H
       clear H
       try go_wp2
       (try (rw [drewN_self wr]; generalize hq_ : World.drewN wr _ = wr; have n0_ := bq_ BK109 hq_; have n1_ := bq_ BK110 hq_; have n2_ : Aside0 (IsS55 w0 wr g s0_0 x1001_2 x1002_2) := ⟨by rw [← hq_]; exact (by repeat (first | (with_reducible first | exact HI0.out | apply IsS55.alloc | apply IsS55.drewN | apply IsS55.drew | apply IsS55.set_1 | apply IsS55.set_2 | refine IsS55.far ?_ NB0_109.out _ | refine IsS55.far ?_ NB0_110.out _) | exact HI0.out))⟩; have n3_ : Aside0 (KeepBut w wr g none) := ⟨by rw [← hq_]; exact (by repeat (first | (with_reducible first | exact HK.out | apply KeepBut.set_ | apply keep_drewN | apply keep_drew | apply keep_alloc | refine keep_far ?_ GW109.out _ | refine keep_far ?_ GW110.out _) | exact HK.out))⟩; have n4_ : Aside0 (Below w0.heap.size w0 wr) := ⟨by rw [← hq_]; exact (by repeat (first | (with_reducible first | exact HB.out | apply below_alloc | apply pw_below_drewN | apply below_drew1 | refine below_set ?_ (IsS55.ge HI0.out) | refine below_set ?_ GE109.out | refine below_set ?_ GE110.out) | exact HB.out))⟩; clear BK109 BK110 HI0 HK HB hq_; have BK109 := n0_; have BK110 := n1_; have HI0 := n2_; have HK := n3_; have HB := n4_; clear n0_ n1_ n2_ n3_ n4_))
       replace BK109 := bd_ BK109
       replace BK110 := bd_ BK110
       replace HI0 := Aside0.mk (IsS55.drew HI0.out)
       replace HK := Aside0.mk (keep_drew HK.out)
       replace HB := be_ HB
       refine start_ (n := 10) (S := fun w' => True) (ds := []) (bv_ 10 0) (by kernel_rfl) rfl rfl trivial (fun hHeld => ?_); refine with_tabW spec_l04Draw.tab8 spec_l04Draw.bits8 (fun HT_ HW_ => ?_)
       generalize wr.drew = w20 at BK109 BK110 HI0 HK HB hHeld ⊢
       refine px_ HT_ 0 15 1 ?_
       refine px_ HT_ 1 16 3 ?_
       refine px_ HT_ 2 17 7 ?_
       refine px_ HT_ 3 18 15 ?_
       refine px_ HT_ 4 19 31 ?_
       refine px_ HT_ 7 22 159 ?_
       refine on_ HT_ 5 (some 20) (bv_ 10 191) (fun K hK => ?_)
       refine gs_ Try.func36 #[.pointer (some ⟨g, 0, none⟩), .int .i64 11] ?_
       with_reducible refine (spec_l01Next.calls g s0_0 x1001_2 x1002_2 11 t111 t112 t113 w0 _ ?side1 ?side2 A10.out).mono ?_
       (case side1 => repeat (first | (with_reducible first | exact HI0.out | apply IsS55.alloc | apply IsS55.drewN | apply IsS55.drew | apply IsS55.set_1 | apply IsS55.set_2 | refine IsS55.far ?_ NB0_109.out _ | refine IsS55.far ?_ NB0_110.out _) | exact HI0.out))
       (case side2 => repeat (first | (with_reducible first | exact HB.out | apply below_alloc | apply pw_below_drewN | apply below_drew1 | refine below_set ?_ (IsS55.ge HI0.out) | refine below_set ?_ GE109.out | refine below_set ?_ GE110.out) | exact HB.out))
       rintro e w21 ⟨rfl, hi, hb, hk⟩
       refine ⟨_, rfl, ?_⟩
       replace BK109 := Aside0.mk (KeepBut.blk hk (g' := gb109) (o := .cells #[.int .i64 0, .int .i64 0, .int .i64 0, .int .i64 0] 26 (0, 0)) (bl_ BK109).out NB109_0.out (by simp))
       replace BK110 := Aside0.mk (KeepBut.blk hk (g' := gb110) (o := .cells #[.int .i64 x111000_2, .int .i64 x111001_2, .int .i64 x111002_2, .int .i64 x111003_2] 26 (0, 0)) (bl_ BK110).out NB110_0.out (by simp))
       replace HK := Aside0.mk (KeepBut.trans (by repeat (first | (with_reducible first | exact HK.out | apply KeepBut.set_ | apply keep_drewN | apply keep_drew | apply keep_alloc | refine keep_far ?_ GW109.out _ | refine keep_far ?_ GW110.out _) | exact HK.out)) hk (.inl rfl))
       replace HB := Aside0.mk (hb)
       replace HI0 := Aside0.mk (hi)
       try clear hb
       try clear hk
       try clear hi
       refine hK.out _ _ trivial (fun hHeld => ?_)
       clear hK K
       refine nm_ (some 20) ?_
       refine px_ HT_ 6 21 255 ?_
       refine px_ HT_ 8 23 511 ?_
       refine on_ HT_ 9 none (bv_ 10 1023) (fun K hK => ?_)
       have hs22 : w21.cell? ⟨gb110, 2, none⟩ = some (.int .i64 x111002_2) := (blk_cell BK110.out 2).trans rfl
       have hfs22 := blk_frozen BK110.out 2
       have hns22_0 := NB109_110.out
       have hms22_0 := NB110_109.out
       refine skip_ (w1 := ?_) (by rfl) rfl ?_ ?_
       rotate_left
       ·go_simp
        rfl
       refine hK.out _ _ trivial (fun hHeld => ?_)
       clear hK K
       refine done_ (done_of HT_.out (by kernel_rfl)) ?_
       try go_wp2
       go_roundg k2
       case measure => have := HK1.out; have := HK2.out; omega
       case rel => exact ⟨(wrap64 (2 + 1)), (t112), (t113), (x111000_2), (x111001_2), (wrap64 (t111 - 5)), (x111003_2), en_, H', ⟨by have := HK1.out; have := HK2.out; omega⟩, fl_ BK109 NB109_110, bp_ BK110, ⟨by repeat (first | (with_reducible first | exact HI0.out | apply IsS55.alloc | apply IsS55.drewN | apply IsS55.drew | apply IsS55.set_1 | apply IsS55.set_2 | refine IsS55.far ?_ NB0_109.out _ | refine IsS55.far ?_ NB0_110.out _) | exact HI0.out)⟩, ⟨by repeat (first | (with_reducible first | exact HK.out | apply KeepBut.set_ | apply keep_drewN | apply keep_drew | apply keep_alloc | refine keep_far ?_ GW109.out _ | refine keep_far ?_ GW110.out _) | exact HK.out)⟩, ⟨by repeat (first | (with_reducible first | exact HB.out | apply below_alloc | apply pw_below_drewN | apply below_drew1 | refine below_set ?_ (IsS55.ge HI0.out) | refine below_set ?_ GE109.out | refine below_set ?_ GE110.out) | exact HB.out)⟩⟩
      rw [if_neg c19] at H
      have c19b0 : (x5_2 == 2) = false := beq_eq_false_iff_ne.mpr c19
      have c19b1 : (x5_2 != 2) = true := bne_iff_ne.mpr c19
      by_cases c23 : x5_2 = 3
      ·subst c23
       replace H := i1_ H
       have H' := Aside0.mk H
       clear H
       try go_wp2
       (try (rw [drewN_self wr]; generalize hq_ : World.drewN wr _ = wr; have n0_ := bq_ BK109 hq_; have n1_ := bq_ BK110 hq_; have n2_ : Aside0 (IsS55 w0 wr g s0_0 x1001_2 x1002_2) := ⟨by rw [← hq_]; exact (by repeat (first | (with_reducible first | exact HI0.out | apply IsS55.alloc | apply IsS55.drewN | apply IsS55.drew | apply IsS55.set_1 | apply IsS55.set_2 | refine IsS55.far ?_ NB0_109.out _ | refine IsS55.far ?_ NB0_110.out _) | exact HI0.out))⟩; have n3_ : Aside0 (KeepBut w wr g none) := ⟨by rw [← hq_]; exact (by repeat (first | (with_reducible first | exact HK.out | apply KeepBut.set_ | apply keep_drewN | apply keep_drew | apply keep_alloc | refine keep_far ?_ GW109.out _ | refine keep_far ?_ GW110.out _) | exact HK.out))⟩; have n4_ : Aside0 (Below w0.heap.size w0 wr) := ⟨by rw [← hq_]; exact (by repeat (first | (with_reducible first | exact HB.out | apply below_alloc | apply pw_below_drewN | apply below_drew1 | refine below_set ?_ (IsS55.ge HI0.out) | refine below_set ?_ GE109.out | refine below_set ?_ GE110.out) | exact HB.out))⟩; clear BK109 BK110 HI0 HK HB hq_; have BK109 := n0_; have BK110 := n1_; have HI0 := n2_; have HK := n3_; have HB := n4_; clear n0_ n1_ n2_ n3_ n4_))
       replace BK109 := bd_ BK109
       replace BK110 := bd_ BK110
       replace HI0 := Aside0.mk (IsS55.drew HI0.out)
       replace HK := Aside0.mk (keep_drew HK.out)
       replace HB := be_ HB
       refine start_ (n := 10) (S := fun w' => True) (ds := []) (bv_ 10 0) (by kernel_rfl) rfl rfl trivial (fun hHeld => ?_); refine with_tabW spec_l04Draw.tab8 spec_l04Draw.bits8 (fun HT_ HW_ => ?_)
       generalize wr.drew = w24 at BK109 BK110 HI0 HK HB hHeld ⊢
       refine px_ HT_ 0 15 1 ?_
       refine px_ HT_ 1 16 3 ?_
       refine px_ HT_ 2 17 7 ?_
       refine px_ HT_ 3 18 15 ?_
       refine px_ HT_ 4 19 31 ?_
       refine px_ HT_ 7 22 159 ?_
       refine on_ HT_ 5 (some 20) (bv_ 10 191) (fun K hK => ?_)
       refine gs_ Try.func36 #[.pointer (some ⟨g, 0, none⟩), .int .i64 11] ?_
       with_reducible refine (spec_l01Next.calls g s0_0 x1001_2 x1002_2 11 t111 t112 t113 w0 _ ?side1 ?side2 A10.out).mono ?_
       (case side1 => repeat (first | (with_reducible first | exact HI0.out | apply IsS55.alloc | apply IsS55.drewN | apply IsS55.drew | apply IsS55.set_1 | apply IsS55.set_2 | refine IsS55.far ?_ NB0_109.out _ | refine IsS55.far ?_ NB0_110.out _) | exact HI0.out))
       (case side2 => repeat (first | (with_reducible first | exact HB.out | apply below_alloc | apply pw_below_drewN | apply below_drew1 | refine below_set ?_ (IsS55.ge HI0.out) | refine below_set ?_ GE109.out | refine below_set ?_ GE110.out) | exact HB.out))
       rintro e w25 ⟨rfl, hi, hb, hk⟩
       refine ⟨_, rfl, ?_⟩
       replace BK109 := Aside0.mk (KeepBut.blk hk (g' := gb109) (o := .cells #[.int .i64 0, .int .i64 0, .int .i64 0, .int .i64 0] 26 (0, 0)) (bl_ BK109).out NB109_0.out (by simp))
       replace BK110 := Aside0.mk (KeepBut.blk hk (g' := gb110) (o := .cells #[.int .i64 x111000_2, .int .i64 x111001_2, .int .i64 x111002_2, .int .i64 x111003_2] 26 (0, 0)) (bl_ BK110).out NB110_0.out (by simp))
       replace HK := Aside0.mk (KeepBut.trans (by repeat (first | (with_reducible first | exact HK.out | apply KeepBut.set_ | apply keep_drewN | apply keep_drew | apply keep_alloc | refine keep_far ?_ GW109.out _ | refine keep_far ?_ GW110.out _) | exact HK.out)) hk (.inl rfl))
       replace HB := Aside0.mk (hb)
       replace HI0 := Aside0.mk (hi)
       try clear hb
       try clear hk
       try clear hi
       refine hK.out _ _ trivial (fun hHeld => ?_)
       clear hK K
       refine nm_ (some 20) ?_
       refine px_ HT_ 6 21 255 ?_
       refine px_ HT_ 8 23 511 ?_
       refine on_ HT_ 9 none (bv_ 10 1023) (fun K hK => ?_)
       have hs26 : w25.cell? ⟨gb110, 3, none⟩ = some (.int .i64 x111003_2) := (blk_cell BK110.out 3).trans rfl
       have hfs26 := blk_frozen BK110.out 3
       have hns26_0 := NB109_110.out
       have hms26_0 := NB110_109.out
       refine skip_ (w1 := ?_) (by rfl) rfl ?_ ?_
       rotate_left
       ·go_simp
        rfl
       refine hK.out _ _ trivial (fun hHeld => ?_)
       clear hK K
       refine done_ (done_of HT_.out (by kernel_rfl)) ?_
       try go_wp2
       go_roundg k2
       case measure => have := HK1.out; have := HK2.out; omega
       case rel => exact ⟨(wrap64 (3 + 1)), (t112), (t113), (x111000_2), (x111001_2), (x111002_2), (wrap64 (t111 - 5)), en_, H', ⟨by have := HK1.out; have := HK2.out; omega⟩, fl_ BK109 NB109_110, bp_ BK110, ⟨by repeat (first | (with_reducible first | exact HI0.out | apply IsS55.alloc | apply IsS55.drewN | apply IsS55.drew | apply IsS55.set_1 | apply IsS55.set_2 | refine IsS55.far ?_ NB0_109.out _ | refine IsS55.far ?_ NB0_110.out _) | exact HI0.out)⟩, ⟨by repeat (first | (with_reducible first | exact HK.out | apply KeepBut.set_ | apply keep_drewN | apply keep_drew | apply keep_alloc | refine keep_far ?_ GW109.out _ | refine keep_far ?_ GW110.out _) | exact HK.out)⟩, ⟨by repeat (first | (with_reducible first | exact HB.out | apply below_alloc | apply pw_below_drewN | apply below_drew1 | refine below_set ?_ (IsS55.ge HI0.out) | refine below_set ?_ GE109.out | refine below_set ?_ GE110.out) | exact HB.out)⟩⟩
      rw [if_neg c23] at H
      exact absurd H (by simp)
     replace H := oc_ H
     obtain ⟨t114, A27, H⟩ := H
     replace H := ie_ H
     rcases H with ⟨c28b0, c28b1, H⟩ | ⟨c28, c28b0, c28b1, H⟩
     ·have H' := Aside0.mk H
      clear H
      have hnb29 := NB110_109.out
      have hnc29 := NB109_110.out
      have hnb30 := NB110_0.out
      have hnc30 := NB0_110.out
      obtain ⟨hcz31_0, hcz31_1, hcz31_2, hcz31_3, hfz31_0, hfz31_1, hfz31_2, hfz31_3⟩ := ch4_ BK110
      go_wp2_with (first | ((refine gc_ 39 ?_); refine ge_ 25 Try.func39 #[.agg #[.int .i64 x111000_2, .int .i64 x111001_2, .int .i64 x111002_2, .int .i64 x111003_2]] ?_; (with_reducible refine (spec_l04Det.calls x111000_2 x111001_2 x111002_2 x111003_2 t114 _ A27.out).mono ?_); rintro e w32 ⟨rfl, hb⟩; refine ⟨_, rfl, ?_⟩; replace BK109 := bb_ BK109 hb; replace BK110 := bb_ BK110 hb; replace HK := Aside0.mk (KeepBut.trans (by repeat (first | (with_reducible first | exact HK.out | apply KeepBut.set_ | apply keep_drewN | apply keep_drew | apply keep_alloc | refine keep_far ?_ GW109.out _ | refine keep_far ?_ GW110.out _) | exact HK.out)) (KeepBut.of_below hb g none) (.inl rfl)); replace HB := Aside0.mk (below_step (by repeat (first | (with_reducible first | exact HB.out | apply below_alloc | apply pw_below_drewN | apply below_drew1 | refine below_set ?_ (IsS55.ge HI0.out) | refine below_set ?_ GE109.out | refine below_set ?_ GE110.out) | exact HB.out)) hb); replace HI0 := Aside0.mk (IsS55.below (by repeat (first | (with_reducible first | exact HI0.out | apply IsS55.alloc | apply IsS55.drewN | apply IsS55.drew | apply IsS55.set_1 | apply IsS55.set_2 | refine IsS55.far ?_ NB0_109.out _ | refine IsS55.far ?_ NB0_110.out _) | exact HI0.out)) hb); (try clear hb)))
      go_roundg k2
      case measure => have := HK1.out; have := HK2.out; omega
      case rel => exact ⟨(wrap64 (x4_1 + 1)), (x1001_2), (x1002_2), (x111000_2), (x111001_2), (x111002_2), (x111003_2), en_, H', ⟨by have := HK1.out; have := HK2.out; omega⟩, bl_ BK109, bl_ BK110, ⟨by repeat (first | (with_reducible first | exact HI0.out | apply IsS55.alloc | apply IsS55.drewN | apply IsS55.drew | apply IsS55.set_1 | apply IsS55.set_2 | refine IsS55.far ?_ NB0_109.out _ | refine IsS55.far ?_ NB0_110.out _) | exact HI0.out)⟩, ⟨by repeat (first | (with_reducible first | exact HK.out | apply KeepBut.set_ | apply keep_drewN | apply keep_drew | apply keep_alloc | refine keep_far ?_ GW109.out _ | refine keep_far ?_ GW110.out _) | exact HK.out)⟩, ⟨by repeat (first | (with_reducible first | exact HB.out | apply below_alloc | apply pw_below_drewN | apply below_drew1 | refine below_set ?_ (IsS55.ge HI0.out) | refine below_set ?_ GE109.out | refine below_set ?_ GE110.out) | exact HB.out)⟩⟩
     have H' := Aside0.mk H
     clear H
     have hnb33 := NB110_109.out
     have hnc33 := NB109_110.out
     have hnb34 := NB110_0.out
     have hnc34 := NB0_110.out
     obtain ⟨hcz35_0, hcz35_1, hcz35_2, hcz35_3, hfz35_0, hfz35_1, hfz35_2, hfz35_3⟩ := ch4_ BK110
     go_wp2_with (first | ((refine gc_ 39 ?_); refine ge_ 25 Try.func39 #[.agg #[.int .i64 x111000_2, .int .i64 x111001_2, .int .i64 x111002_2, .int .i64 x111003_2]] ?_; (with_reducible refine (spec_l04Det.calls x111000_2 x111001_2 x111002_2 x111003_2 t114 _ A27.out).mono ?_); rintro e w36 ⟨rfl, hb⟩; refine ⟨_, rfl, ?_⟩; replace BK109 := bb_ BK109 hb; replace BK110 := bb_ BK110 hb; replace HK := Aside0.mk (KeepBut.trans (by repeat (first | (with_reducible first | exact HK.out | apply KeepBut.set_ | apply keep_drewN | apply keep_drew | apply keep_alloc | refine keep_far ?_ GW109.out _ | refine keep_far ?_ GW110.out _) | exact HK.out)) (KeepBut.of_below hb g none) (.inl rfl)); replace HB := Aside0.mk (below_step (by repeat (first | (with_reducible first | exact HB.out | apply below_alloc | apply pw_below_drewN | apply below_drew1 | refine below_set ?_ (IsS55.ge HI0.out) | refine below_set ?_ GE109.out | refine below_set ?_ GE110.out) | exact HB.out)) hb); replace HI0 := Aside0.mk (IsS55.below (by repeat (first | (with_reducible first | exact HI0.out | apply IsS55.alloc | apply IsS55.drewN | apply IsS55.drew | apply IsS55.set_1 | apply IsS55.set_2 | refine IsS55.far ?_ NB0_109.out _ | refine IsS55.far ?_ NB0_110.out _) | exact HI0.out)) hb); (try clear hb)))
     go_meet
     case rel => exact ⟨_, (x1001_2), (x1002_2), (x111000_2), (x111001_2), (x111002_2), (x111003_2), H', ⟨by have := HK1.out; have := HK2.out; first | omega | exact Nat.le_refl _⟩, bl_ BK109, bl_ BK110, ⟨by repeat (first | (with_reducible first | exact HI0.out | apply IsS55.alloc | apply IsS55.drewN | apply IsS55.drew | apply IsS55.set_1 | apply IsS55.set_2 | refine IsS55.far ?_ NB0_109.out _ | refine IsS55.far ?_ NB0_110.out _) | exact HI0.out)⟩, ⟨by repeat (first | (with_reducible first | exact HK.out | apply KeepBut.set_ | apply keep_drewN | apply keep_drew | apply keep_alloc | refine keep_far ?_ GW109.out _ | refine keep_far ?_ GW110.out _) | exact HK.out)⟩, ⟨by repeat (first | (with_reducible first | exact HB.out | apply below_alloc | apply pw_below_drewN | apply below_drew1 | refine below_set ?_ (IsS55.ge HI0.out) | refine below_set ?_ GE109.out | refine below_set ?_ GE110.out) | exact HB.out)⟩⟩
   (first | rw [c8b0] | (simp only [i64_w, i32_w]; rw [c8b0]) | skip)
   have H' := Aside0.mk H
   clear H
   go_wp2
   go_meet
   case rel => exact ⟨_, (x1001_1), (x1002_1), (x111000_1), (x111001_1), (x111002_1), (x111003_1), H', ⟨by have := HK1.out; first | omega | exact Nat.le_refl _⟩, bl_ BK109, bl_ BK110, ⟨by repeat (first | (with_reducible first | exact HI0.out | apply IsS55.alloc | apply IsS55.drewN | apply IsS55.drew | apply IsS55.set_1 | apply IsS55.set_2 | refine IsS55.far ?_ NB0_109.out _ | refine IsS55.far ?_ NB0_110.out _) | exact HI0.out)⟩, ⟨by repeat (first | (with_reducible first | exact HK.out | apply KeepBut.set_ | apply keep_drewN | apply keep_drew | apply keep_alloc | refine keep_far ?_ GW109.out _ | refine keep_far ?_ GW110.out _) | exact HK.out)⟩, ⟨by repeat (first | (with_reducible first | exact HB.out | apply below_alloc | apply pw_below_drewN | apply below_drew1 | refine below_set ?_ (IsS55.ge HI0.out) | refine below_set ?_ GE109.out | refine below_set ?_ GE110.out) | exact HB.out)⟩⟩
 clear HC2
 try clear c8b0
 try clear c9b0
 try clear c11
 try clear c11b0
 try clear c11b1
 try clear c15
 try clear c15b0
 try clear c15b1
 try clear c19
 try clear c19b0
 try clear c19b1
 try clear c23
 try clear c28
 try clear c28b0
 try clear c28b1
 try clear hcz31_0 hcz31_1 hcz31_2 hcz31_3
 try clear hcz35_0 hcz35_1 hcz35_2 hcz35_3
 try clear hfz31_0 hfz31_1 hfz31_2 hfz31_3
 try clear hfz35_0 hfz35_1 hfz35_2 hfz35_3
 obtain ⟨kq, x1001_1, x1002_1, x111000_1, x111001_1, x111002_1, x111003_1, HA, HJ1, BK109, BK110, HI0, HK, HB⟩ := hcut
 cases kq with
 | zero => exact absurd HA.out (by simp [spec_l04Draw.j2])
 | succ kj1 =>
  have H := HA.out
  clear HA
  simp only [spec_l04Draw.j2] at H
  replace H := oc_ H
  obtain ⟨⟨t115, t116, t117⟩, A37, H⟩ := H
  have HC38 := Aside0.mk H
  clear H
  go_upto_block 4 with (first | ((refine gc_ 36 ?_); refine ge_ 28 Try.func36 #[.pointer (some ⟨g, 0, none⟩), .int .i64 9] ?_; (with_reducible refine (spec_l01Next.calls g s0_0 x1001_1 x1002_1 9 t115 t116 t117 w0 _ ?side1 ?side2 A37.out).mono ?_); (case side1 => repeat (first | (with_reducible first | exact HI0.out | apply IsS55.alloc | apply IsS55.drewN | apply IsS55.drew | apply IsS55.set_1 | apply IsS55.set_2 | refine IsS55.far ?_ NB0_109.out _ | refine IsS55.far ?_ NB0_110.out _) | exact HI0.out)); (case side2 => repeat (first | (with_reducible first | exact HB.out | apply below_alloc | apply pw_below_drewN | apply below_drew1 | refine below_set ?_ (IsS55.ge HI0.out) | refine below_set ?_ GE109.out | refine below_set ?_ GE110.out) | exact HB.out)); rintro e w39 ⟨rfl, hi, hb, hk⟩; refine ⟨_, rfl, ?_⟩; replace BK109 := Aside0.mk (KeepBut.blk hk (g' := gb109) (o := .cells #[.int .i64 0, .int .i64 0, .int .i64 0, .int .i64 0] 26 (0, 0)) (bl_ BK109).out NB109_0.out (by simp)); replace BK110 := Aside0.mk (KeepBut.blk hk (g' := gb110) (o := .cells #[.int .i64 x111000_1, .int .i64 x111001_1, .int .i64 x111002_1, .int .i64 x111003_1] 26 (0, 0)) (bl_ BK110).out NB110_0.out (by simp)); replace HK := Aside0.mk (KeepBut.trans (by repeat (first | (with_reducible first | exact HK.out | apply KeepBut.set_ | apply keep_drewN | apply keep_drew | apply keep_alloc | refine keep_far ?_ GW109.out _ | refine keep_far ?_ GW110.out _) | exact HK.out)) hk (.inl rfl)); replace HB := Aside0.mk (hb); replace HI0 := Aside0.mk (hi); (try clear hb); (try clear hk); (try clear hi)))
  (try simp only [Act.put, lstS, lstZ, lstC])
  go_cut [] (fun wc => ∃ (kq : Nat) (x1001_37 : Int) (x1002_37 : Int) (x111000_37 : Int) (x111001_37 : Int) (x111002_37 : Int) (x111003_37 : Int), Aside0 (spec_l04Draw.j3 kq s0_0 x1001_37 x1002_37 x111000_37 x111001_37 x111002_37 x111003_37 = some (r1, r2, r3, r4, r5, r6)) ∧ Aside0 (kq ≤ kj1) ∧ Aside0 (wc.heap[gb109]? = some (.cells #[.int .i64 0, .int .i64 0, .int .i64 0, .int .i64 0] 26 (0, 0))) ∧ Aside0 (wc.heap[gb110]? = some (.cells #[.int .i64 x111000_37, .int .i64 x111001_37, .int .i64 x111002_37, .int .i64 x111003_37] 26 (0, 0))) ∧ Aside0 (IsS55 w0 wc g s0_0 x1001_37 x1002_37) ∧ Aside0 (KeepBut w wc g none) ∧ Aside0 (Below w0.heap.size w0 wc))
  case first =>
   have H := HC38.out
   clear HC38
   replace H := ie_ H
   rcases H with ⟨c40b0, c40b1, H⟩ | ⟨c40, c40b0, c40b1, H⟩
   ·(first | rw [c40b0] | (simp only [i64_w, i32_w]; rw [c40b0]) | skip)
    obtain ⟨y118, hy118⟩ : ∃ y_ : List Int, y_ = (([2, 3, 4, 5, 9] : List Int)) := ⟨_, rfl⟩
    replace H : ((spec_l01Pick.f s0_0 t116 t117 y118).bind fun bt121 => ((spec_l01Next.f s0_0 bt121.2.1 bt121.2.2 5).bind fun bt124 => (spec_l04Draw.j3 kj1 s0_0 bt124.2.1 bt124.2.2 bt121.1 (wrap64 (bt124.1 - 2)) 0 1))) = some (r1, r2, r3, r4, r5, r6) := by first | (rw [hy118]; with_reducible exact H) | (have H2_ := (Option.bind_some _ _).symm.trans H; rw [hy118]; with_reducible exact H2_) | (have H2_ := (Option.bind_some _ _).symm.trans H; with_reducible exact H2_) | with_reducible exact H | (rw [hy118]; exact H) | exact H
    have Ny118 := Aside0.mk hy118
    clear hy118
    replace H := oc_ H
    obtain ⟨⟨t121, t122, t123⟩, A41, H⟩ := H
    replace H := oc_ H
    obtain ⟨⟨t124, t125, t126⟩, A42, H⟩ := H
    have H' := Aside0.mk H
    clear H
    go_wp2_with (first | ((refine gd_ 32 ?_); refine Kd.R_lit (Kd.int .i64) _ 2 ?hg (N := 32) ?hd (xs := ([2, 3, 4, 5, 9] : List Int)) (inner := [.int .i64 2, .int .i64 3, .int .i64 4, .int .i64 5, .int .i64 9]) (ok := fun _ => True) (okp := fun _ => True) ?hr ?hp (fun _ hk => hk) trivial (Below.refl _ _) (Nat.le_refl _) (by simp) ?_; (case hd => rfl); (case hg => rfl); (case hr => first | (go_simp; done) | (go_simp; rfl)); (case hp => exact (Reps.one (show Kd.M (Kd.int .i64) _ _ _ 2 [.int .i64 2] from rfl) (Reps.one (show Kd.M (Kd.int .i64) _ _ _ 3 [.int .i64 3] from rfl) (Reps.one (show Kd.M (Kd.int .i64) _ _ _ 4 [.int .i64 4] from rfl) (Reps.one (show Kd.M (Kd.int .i64) _ _ _ 5 [.int .i64 5] from rfl) (Reps.one (show Kd.M (Kd.int .i64) _ _ _ 9 [.int .i64 9] from rfl) (Reps.none _ _))))))); intro v119 w43 ho44 hb hg_ hnew_; clear hg_ hnew_; (first | rw [← Ny118.out] at ho44 | (simp only [Int.reduceToNat] at ho44; rw [← Ny118.out] at ho44)); have HO120 := Aside0.mk (Kd.R_lower ho44 (keep_size (w := w) (g := g) (row := none) (by repeat (first | (with_reducible first | exact HK.out | apply KeepBut.set_ | apply keep_drewN | apply keep_drew | apply keep_alloc | refine keep_far ?_ GW109.out _ | refine keep_far ?_ GW110.out _) | exact HK.out)))); replace BK109 := bb_ BK109 hb; replace BK110 := bb_ BK110 hb; replace HK := Aside0.mk (KeepBut.trans (by repeat (first | (with_reducible first | exact HK.out | apply KeepBut.set_ | apply keep_drewN | apply keep_drew | apply keep_alloc | refine keep_far ?_ GW109.out _ | refine keep_far ?_ GW110.out _) | exact HK.out)) (KeepBut.of_below hb g none) (.inl rfl)); replace HB := Aside0.mk (below_step (by repeat (first | (with_reducible first | exact HB.out | apply below_alloc | apply pw_below_drewN | apply below_drew1 | refine below_set ?_ (IsS55.ge HI0.out) | refine below_set ?_ GE109.out | refine below_set ?_ GE110.out) | exact HB.out)) hb); replace HI0 := Aside0.mk (IsS55.below (by repeat (first | (with_reducible first | exact HI0.out | apply IsS55.alloc | apply IsS55.drewN | apply IsS55.drew | apply IsS55.set_1 | apply IsS55.set_2 | refine IsS55.far ?_ NB0_109.out _ | refine IsS55.far ?_ NB0_110.out _) | exact HI0.out)) hb); clear hb ho44; obtain ⟨Ao45, co45, eo45⟩ := Kd.R_slice HO120.out; subst eo45) | ((refine gc_ 31 ?_); refine ge_ 33 Try.func31 #[.pointer (some ⟨g, 0, none⟩), .slice Ao45 y118.length co45] ?_; (with_reducible refine (spec_l01Pick.calls g s0_0 t116 t117 _ _ y118 t121 t122 t123 w0 _ ?side1 ?side2 ?side3 ?side4 ?side5 A41.out).mono ?_); (case side1 => repeat (first | (with_reducible first | exact HI0.out | apply IsS55.alloc | apply IsS55.drewN | apply IsS55.drew | apply IsS55.set_1 | apply IsS55.set_2 | refine IsS55.far ?_ NB0_109.out _ | refine IsS55.far ?_ NB0_110.out _) | exact HI0.out)); (case side2 => repeat (first | (with_reducible first | exact HB.out | apply below_alloc | apply pw_below_drewN | apply below_drew1 | refine below_set ?_ (IsS55.ge HI0.out) | refine below_set ?_ GE109.out | refine below_set ?_ GE110.out) | exact HB.out)); (case side3 => exact ca_ (Kd.R_reads' HO120.out).2.2); (case side4 => exact (Kd.R_reads' HO120.out).2.1); (case side5 => exact far_slice (IsS55.own_ne HI0.out HO120.out (by decide))); rintro e w46 ⟨rfl, hi, hb, hk⟩; refine ⟨_, rfl, ?_⟩; replace BK109 := Aside0.mk (KeepBut.blk hk (g' := gb109) (o := .cells #[.int .i64 0, .int .i64 0, .int .i64 0, .int .i64 0] 26 (0, 0)) (bl_ BK109).out NB109_0.out (by simp)); replace BK110 := Aside0.mk (KeepBut.blk hk (g' := gb110) (o := .cells #[.int .i64 x111000_1, .int .i64 x111001_1, .int .i64 x111002_1, .int .i64 x111003_1] 26 (0, 0)) (bl_ BK110).out NB110_0.out (by simp)); replace HO120 := Aside0.mk (Kd.R_mono (Kd.R_keep (IsS55.apart (show IsS55 w0 _ g s0_0 t116 t117 from by repeat (first | (with_reducible first | exact HI0.out | apply IsS55.alloc | apply IsS55.drewN | apply IsS55.drew | apply IsS55.set_1 | apply IsS55.set_2 | refine IsS55.far ?_ NB0_109.out _ | refine IsS55.far ?_ NB0_110.out _) | exact HI0.out)) (ra_ HO120.out) (by decide)) hk (fun _ h => h.2)) (fun _ h => h.1)); replace HK := Aside0.mk (KeepBut.trans (by repeat (first | (with_reducible first | exact HK.out | apply KeepBut.set_ | apply keep_drewN | apply keep_drew | apply keep_alloc | refine keep_far ?_ GW109.out _ | refine keep_far ?_ GW110.out _) | exact HK.out)) hk (.inl rfl)); replace HB := Aside0.mk (hb); replace HI0 := Aside0.mk (hi); (try clear hb); (try clear hk); (try clear hi)) | ((refine gc_ 36 ?_); refine ge_ 35 Try.func36 #[.pointer (some ⟨g, 0, none⟩), .int .i64 5] ?_; (with_reducible refine (spec_l01Next.calls g s0_0 t122 t123 5 t124 t125 t126 w0 _ ?side1 ?side2 A42.out).mono ?_); (case side1 => repeat (first | (with_reducible first | exact HI0.out | apply IsS55.alloc | apply IsS55.drewN | apply IsS55.drew | apply IsS55.set_1 | apply IsS55.set_2 | refine IsS55.far ?_ NB0_109.out _ | refine IsS55.far ?_ NB0_110.out _) | exact HI0.out)); (case side2 => repeat (first | (with_reducible first | exact HB.out | apply below_alloc | apply pw_below_drewN | apply below_drew1 | refine below_set ?_ (IsS55.ge HI0.out) | refine below_set ?_ GE109.out | refine below_set ?_ GE110.out) | exact HB.out)); rintro e w47 ⟨rfl, hi, hb, hk⟩; refine ⟨_, rfl, ?_⟩; replace BK109 := Aside0.mk (KeepBut.blk hk (g' := gb109) (o := .cells #[.int .i64 0, .int .i64 0, .int .i64 0, .int .i64 0] 26 (0, 0)) (bl_ BK109).out NB109_0.out (by simp)); replace BK110 := Aside0.mk (KeepBut.blk hk (g' := gb110) (o := .cells #[.int .i64 x111000_1, .int .i64 x111001_1, .int .i64 x111002_1, .int .i64 x111003_1] 26 (0, 0)) (bl_ BK110).out NB110_0.out (by simp)); replace HO120 := Aside0.mk (Kd.R_mono (Kd.R_keep (IsS55.apart (show IsS55 w0 _ g s0_0 t122 t123 from by repeat (first | (with_reducible first | exact HI0.out | apply IsS55.alloc | apply IsS55.drewN | apply IsS55.drew | apply IsS55.set_1 | apply IsS55.set_2 | refine IsS55.far ?_ NB0_109.out _ | refine IsS55.far ?_ NB0_110.out _) | exact HI0.out)) (ra_ HO120.out) (by decide)) hk (fun _ h => h.2)) (fun _ h => h.1)); replace HK := Aside0.mk (KeepBut.trans (by repeat (first | (with_reducible first | exact HK.out | apply KeepBut.set_ | apply keep_drewN | apply keep_drew | apply keep_alloc | refine keep_far ?_ GW109.out _ | refine keep_far ?_ GW110.out _) | exact HK.out)) hk (.inl rfl)); replace HB := Aside0.mk (hb); replace HI0 := Aside0.mk (hi); (try clear hb); (try clear hk); (try clear hi); have hnb48 := NB110_109.out; have hnc48 := NB109_110.out; have hnb49 := NB110_0.out; have hnc49 := NB0_110.out; obtain ⟨hcz50_0, hcz50_1, hcz50_2, hcz50_3, hfz50_0, hfz50_1, hfz50_2, hfz50_3⟩ := ch4_ BK110))
    go_meet
    case rel => exact ⟨_, (t125), (t126), (t121), (wrap64 (t124 - 2)), (0), (1), H', ⟨by have := HJ1.out; first | omega | exact Nat.le_refl _⟩, fl_ BK109 NB109_110, bp_ BK110, ⟨by repeat (first | (with_reducible first | exact HI0.out | apply IsS55.alloc | apply IsS55.drewN | apply IsS55.drew | apply IsS55.set_1 | apply IsS55.set_2 | refine IsS55.far ?_ NB0_109.out _ | refine IsS55.far ?_ NB0_110.out _) | exact HI0.out)⟩, ⟨by repeat (first | (with_reducible first | exact HK.out | apply KeepBut.set_ | apply keep_drewN | apply keep_drew | apply keep_alloc | refine keep_far ?_ GW109.out _ | refine keep_far ?_ GW110.out _) | exact HK.out)⟩, ⟨by repeat (first | (with_reducible first | exact HB.out | apply below_alloc | apply pw_below_drewN | apply below_drew1 | refine below_set ?_ (IsS55.ge HI0.out) | refine below_set ?_ GE109.out | refine below_set ?_ GE110.out) | exact HB.out)⟩⟩
   (first | rw [c40b0] | (simp only [i64_w, i32_w]; rw [c40b0]) | skip)
   replace H := ie_ H
   rcases H with ⟨c51b0, c51b1, H⟩ | ⟨c51, c51b0, c51b1, H⟩
   ·obtain ⟨y127, hy127⟩ : ∃ y_ : List Int, y_ = (([2, 3, 4, 7, 1] : List Int)) := ⟨_, rfl⟩
    replace H : ((spec_l01Pick.f s0_0 t116 t117 y127).bind fun bt130 => (spec_l04Draw.j3 kj1 s0_0 bt130.2.1 bt130.2.2 1 0 0 bt130.1)) = some (r1, r2, r3, r4, r5, r6) := by first | (rw [hy127]; with_reducible exact H) | (have H2_ := (Option.bind_some _ _).symm.trans H; rw [hy127]; with_reducible exact H2_) | (have H2_ := (Option.bind_some _ _).symm.trans H; with_reducible exact H2_) | with_reducible exact H | (rw [hy127]; exact H) | exact H
    have Ny127 := Aside0.mk hy127
    clear hy127
    replace H := oc_ H
    obtain ⟨⟨t130, t131, t132⟩, A52, H⟩ := H
    have H' := Aside0.mk H
    clear H
    go_wp2_with (first | ((refine gd_ 44 ?_); refine Kd.R_lit (Kd.int .i64) _ 2 ?hg (N := 44) ?hd (xs := ([2, 3, 4, 7, 1] : List Int)) (inner := [.int .i64 2, .int .i64 3, .int .i64 4, .int .i64 7, .int .i64 1]) (ok := fun _ => True) (okp := fun _ => True) ?hr ?hp (fun _ hk => hk) trivial (Below.refl _ _) (Nat.le_refl _) (by simp) ?_; (case hd => rfl); (case hg => rfl); (case hr => first | (go_simp; done) | (go_simp; rfl)); (case hp => exact (Reps.one (show Kd.M (Kd.int .i64) _ _ _ 2 [.int .i64 2] from rfl) (Reps.one (show Kd.M (Kd.int .i64) _ _ _ 3 [.int .i64 3] from rfl) (Reps.one (show Kd.M (Kd.int .i64) _ _ _ 4 [.int .i64 4] from rfl) (Reps.one (show Kd.M (Kd.int .i64) _ _ _ 7 [.int .i64 7] from rfl) (Reps.one (show Kd.M (Kd.int .i64) _ _ _ 1 [.int .i64 1] from rfl) (Reps.none _ _))))))); intro v128 w53 ho54 hb hg_ hnew_; clear hg_ hnew_; (first | rw [← Ny127.out] at ho54 | (simp only [Int.reduceToNat] at ho54; rw [← Ny127.out] at ho54)); have HO129 := Aside0.mk (Kd.R_lower ho54 (keep_size (w := w) (g := g) (row := none) (by repeat (first | (with_reducible first | exact HK.out | apply KeepBut.set_ | apply keep_drewN | apply keep_drew | apply keep_alloc | refine keep_far ?_ GW109.out _ | refine keep_far ?_ GW110.out _) | exact HK.out)))); replace BK109 := bb_ BK109 hb; replace BK110 := bb_ BK110 hb; replace HK := Aside0.mk (KeepBut.trans (by repeat (first | (with_reducible first | exact HK.out | apply KeepBut.set_ | apply keep_drewN | apply keep_drew | apply keep_alloc | refine keep_far ?_ GW109.out _ | refine keep_far ?_ GW110.out _) | exact HK.out)) (KeepBut.of_below hb g none) (.inl rfl)); replace HB := Aside0.mk (below_step (by repeat (first | (with_reducible first | exact HB.out | apply below_alloc | apply pw_below_drewN | apply below_drew1 | refine below_set ?_ (IsS55.ge HI0.out) | refine below_set ?_ GE109.out | refine below_set ?_ GE110.out) | exact HB.out)) hb); replace HI0 := Aside0.mk (IsS55.below (by repeat (first | (with_reducible first | exact HI0.out | apply IsS55.alloc | apply IsS55.drewN | apply IsS55.drew | apply IsS55.set_1 | apply IsS55.set_2 | refine IsS55.far ?_ NB0_109.out _ | refine IsS55.far ?_ NB0_110.out _) | exact HI0.out)) hb); clear hb ho54; obtain ⟨Ao55, co55, eo55⟩ := Kd.R_slice HO129.out; subst eo55) | ((refine gc_ 31 ?_); refine ge_ 45 Try.func31 #[.pointer (some ⟨g, 0, none⟩), .slice Ao55 y127.length co55] ?_; (with_reducible refine (spec_l01Pick.calls g s0_0 t116 t117 _ _ y127 t130 t131 t132 w0 _ ?side1 ?side2 ?side3 ?side4 ?side5 A52.out).mono ?_); (case side1 => repeat (first | (with_reducible first | exact HI0.out | apply IsS55.alloc | apply IsS55.drewN | apply IsS55.drew | apply IsS55.set_1 | apply IsS55.set_2 | refine IsS55.far ?_ NB0_109.out _ | refine IsS55.far ?_ NB0_110.out _) | exact HI0.out)); (case side2 => repeat (first | (with_reducible first | exact HB.out | apply below_alloc | apply pw_below_drewN | apply below_drew1 | refine below_set ?_ (IsS55.ge HI0.out) | refine below_set ?_ GE109.out | refine below_set ?_ GE110.out) | exact HB.out)); (case side3 => exact ca_ (Kd.R_reads' HO129.out).2.2); (case side4 => exact (Kd.R_reads' HO129.out).2.1); (case side5 => exact far_slice (IsS55.own_ne HI0.out HO129.out (by decide))); rintro e w56 ⟨rfl, hi, hb, hk⟩; refine ⟨_, rfl, ?_⟩; replace BK109 := Aside0.mk (KeepBut.blk hk (g' := gb109) (o := .cells #[.int .i64 0, .int .i64 0, .int .i64 0, .int .i64 0] 26 (0, 0)) (bl_ BK109).out NB109_0.out (by simp)); replace BK110 := Aside0.mk (KeepBut.blk hk (g' := gb110) (o := .cells #[.int .i64 x111000_1, .int .i64 x111001_1, .int .i64 x111002_1, .int .i64 x111003_1] 26 (0, 0)) (bl_ BK110).out NB110_0.out (by simp)); replace HO129 := Aside0.mk (Kd.R_mono (Kd.R_keep (IsS55.apart (show IsS55 w0 _ g s0_0 t116 t117 from by repeat (first | (with_reducible first | exact HI0.out | apply IsS55.alloc | apply IsS55.drewN | apply IsS55.drew | apply IsS55.set_1 | apply IsS55.set_2 | refine IsS55.far ?_ NB0_109.out _ | refine IsS55.far ?_ NB0_110.out _) | exact HI0.out)) (ra_ HO129.out) (by decide)) hk (fun _ h => h.2)) (fun _ h => h.1)); replace HK := Aside0.mk (KeepBut.trans (by repeat (first | (with_reducible first | exact HK.out | apply KeepBut.set_ | apply keep_drewN | apply keep_drew | apply keep_alloc | refine keep_far ?_ GW109.out _ | refine keep_far ?_ GW110.out _) | exact HK.out)) hk (.inl rfl)); replace HB := Aside0.mk (hb); replace HI0 := Aside0.mk (hi); (try clear hb); (try clear hk); (try clear hi); have hnb57 := NB110_109.out; have hnc57 := NB109_110.out; have hnb58 := NB110_0.out; have hnc58 := NB0_110.out; obtain ⟨hcz59_0, hcz59_1, hcz59_2, hcz59_3, hfz59_0, hfz59_1, hfz59_2, hfz59_3⟩ := ch4_ BK110))
    go_meet
    case rel => exact ⟨_, (t131), (t132), (1), (0), (0), (t130), H', ⟨by have := HJ1.out; first | omega | exact Nat.le_refl _⟩, fl_ BK109 NB109_110, bp_ BK110, ⟨by repeat (first | (with_reducible first | exact HI0.out | apply IsS55.alloc | apply IsS55.drewN | apply IsS55.drew | apply IsS55.set_1 | apply IsS55.set_2 | refine IsS55.far ?_ NB0_109.out _ | refine IsS55.far ?_ NB0_110.out _) | exact HI0.out)⟩, ⟨by repeat (first | (with_reducible first | exact HK.out | apply KeepBut.set_ | apply keep_drewN | apply keep_drew | apply keep_alloc | refine keep_far ?_ GW109.out _ | refine keep_far ?_ GW110.out _) | exact HK.out)⟩, ⟨by repeat (first | (with_reducible first | exact HB.out | apply below_alloc | apply pw_below_drewN | apply below_drew1 | refine below_set ?_ (IsS55.ge HI0.out) | refine below_set ?_ GE109.out | refine below_set ?_ GE110.out) | exact HB.out)⟩⟩
   replace H := ie_ H
   rcases H with ⟨c60b0, c60b1, H⟩ | ⟨c60, c60b0, c60b1, H⟩
   ·obtain ⟨y133, hy133⟩ : ∃ y_ : List Int, y_ = (([1, (-1), 2, 3] : List Int)) := ⟨_, rfl⟩
    replace H : ((spec_l01Pick.f s0_0 t116 t117 y133).bind fun bt136 => (spec_l04Draw.j3 kj1 s0_0 bt136.2.1 bt136.2.2 0 bt136.1 1 0)) = some (r1, r2, r3, r4, r5, r6) := by first | (rw [hy133]; with_reducible exact H) | (have H2_ := (Option.bind_some _ _).symm.trans H; rw [hy133]; with_reducible exact H2_) | (have H2_ := (Option.bind_some _ _).symm.trans H; with_reducible exact H2_) | with_reducible exact H | (rw [hy133]; exact H) | exact H
    have Ny133 := Aside0.mk hy133
    clear hy133
    replace H := oc_ H
    obtain ⟨⟨t136, t137, t138⟩, A61, H⟩ := H
    have H' := Aside0.mk H
    clear H
    go_wp2_with (first | ((refine gd_ 51 ?_); refine Kd.R_lit (Kd.int .i64) _ 2 ?hg (N := 51) ?hd (xs := ([1, (-1), 2, 3] : List Int)) (inner := [.int .i64 1, .int .i64 (-1), .int .i64 2, .int .i64 3]) (ok := fun _ => True) (okp := fun _ => True) ?hr ?hp (fun _ hk => hk) trivial (Below.refl _ _) (Nat.le_refl _) (by simp) ?_; (case hd => rfl); (case hg => rfl); (case hr => first | (go_simp; done) | (go_simp; rfl)); (case hp => exact (Reps.one (show Kd.M (Kd.int .i64) _ _ _ 1 [.int .i64 1] from rfl) (Reps.one (show Kd.M (Kd.int .i64) _ _ _ (-1) [.int .i64 (-1)] from rfl) (Reps.one (show Kd.M (Kd.int .i64) _ _ _ 2 [.int .i64 2] from rfl) (Reps.one (show Kd.M (Kd.int .i64) _ _ _ 3 [.int .i64 3] from rfl) (Reps.none _ _)))))); intro v134 w62 ho63 hb hg_ hnew_; clear hg_ hnew_; (first | rw [← Ny133.out] at ho63 | (simp only [Int.reduceToNat] at ho63; rw [← Ny133.out] at ho63)); have HO135 := Aside0.mk (Kd.R_lower ho63 (keep_size (w := w) (g := g) (row := none) (by repeat (first | (with_reducible first | exact HK.out | apply KeepBut.set_ | apply keep_drewN | apply keep_drew | apply keep_alloc | refine keep_far ?_ GW109.out _ | refine keep_far ?_ GW110.out _) | exact HK.out)))); replace BK109 := bb_ BK109 hb; replace BK110 := bb_ BK110 hb; replace HK := Aside0.mk (KeepBut.trans (by repeat (first | (with_reducible first | exact HK.out | apply KeepBut.set_ | apply keep_drewN | apply keep_drew | apply keep_alloc | refine keep_far ?_ GW109.out _ | refine keep_far ?_ GW110.out _) | exact HK.out)) (KeepBut.of_below hb g none) (.inl rfl)); replace HB := Aside0.mk (below_step (by repeat (first | (with_reducible first | exact HB.out | apply below_alloc | apply pw_below_drewN | apply below_drew1 | refine below_set ?_ (IsS55.ge HI0.out) | refine below_set ?_ GE109.out | refine below_set ?_ GE110.out) | exact HB.out)) hb); replace HI0 := Aside0.mk (IsS55.below (by repeat (first | (with_reducible first | exact HI0.out | apply IsS55.alloc | apply IsS55.drewN | apply IsS55.drew | apply IsS55.set_1 | apply IsS55.set_2 | refine IsS55.far ?_ NB0_109.out _ | refine IsS55.far ?_ NB0_110.out _) | exact HI0.out)) hb); clear hb ho63; obtain ⟨Ao64, co64, eo64⟩ := Kd.R_slice HO135.out; subst eo64) | ((refine gc_ 31 ?_); refine ge_ 52 Try.func31 #[.pointer (some ⟨g, 0, none⟩), .slice Ao64 y133.length co64] ?_; (with_reducible refine (spec_l01Pick.calls g s0_0 t116 t117 _ _ y133 t136 t137 t138 w0 _ ?side1 ?side2 ?side3 ?side4 ?side5 A61.out).mono ?_); (case side1 => repeat (first | (with_reducible first | exact HI0.out | apply IsS55.alloc | apply IsS55.drewN | apply IsS55.drew | apply IsS55.set_1 | apply IsS55.set_2 | refine IsS55.far ?_ NB0_109.out _ | refine IsS55.far ?_ NB0_110.out _) | exact HI0.out)); (case side2 => repeat (first | (with_reducible first | exact HB.out | apply below_alloc | apply pw_below_drewN | apply below_drew1 | refine below_set ?_ (IsS55.ge HI0.out) | refine below_set ?_ GE109.out | refine below_set ?_ GE110.out) | exact HB.out)); (case side3 => exact ca_ (Kd.R_reads' HO135.out).2.2); (case side4 => exact (Kd.R_reads' HO135.out).2.1); (case side5 => exact far_slice (IsS55.own_ne HI0.out HO135.out (by decide))); rintro e w65 ⟨rfl, hi, hb, hk⟩; refine ⟨_, rfl, ?_⟩; replace BK109 := Aside0.mk (KeepBut.blk hk (g' := gb109) (o := .cells #[.int .i64 0, .int .i64 0, .int .i64 0, .int .i64 0] 26 (0, 0)) (bl_ BK109).out NB109_0.out (by simp)); replace BK110 := Aside0.mk (KeepBut.blk hk (g' := gb110) (o := .cells #[.int .i64 x111000_1, .int .i64 x111001_1, .int .i64 x111002_1, .int .i64 x111003_1] 26 (0, 0)) (bl_ BK110).out NB110_0.out (by simp)); replace HO135 := Aside0.mk (Kd.R_mono (Kd.R_keep (IsS55.apart (show IsS55 w0 _ g s0_0 t116 t117 from by repeat (first | (with_reducible first | exact HI0.out | apply IsS55.alloc | apply IsS55.drewN | apply IsS55.drew | apply IsS55.set_1 | apply IsS55.set_2 | refine IsS55.far ?_ NB0_109.out _ | refine IsS55.far ?_ NB0_110.out _) | exact HI0.out)) (ra_ HO135.out) (by decide)) hk (fun _ h => h.2)) (fun _ h => h.1)); replace HK := Aside0.mk (KeepBut.trans (by repeat (first | (with_reducible first | exact HK.out | apply KeepBut.set_ | apply keep_drewN | apply keep_drew | apply keep_alloc | refine keep_far ?_ GW109.out _ | refine keep_far ?_ GW110.out _) | exact HK.out)) hk (.inl rfl)); replace HB := Aside0.mk (hb); replace HI0 := Aside0.mk (hi); (try clear hb); (try clear hk); (try clear hi); have hnb66 := NB110_109.out; have hnc66 := NB109_110.out; have hnb67 := NB110_0.out; have hnc67 := NB0_110.out; obtain ⟨hcz68_0, hcz68_1, hcz68_2, hcz68_3, hfz68_0, hfz68_1, hfz68_2, hfz68_3⟩ := ch4_ BK110))
    go_meet
    case rel => exact ⟨_, (t137), (t138), (0), (t136), (1), (0), H', ⟨by have := HJ1.out; first | omega | exact Nat.le_refl _⟩, fl_ BK109 NB109_110, bp_ BK110, ⟨by repeat (first | (with_reducible first | exact HI0.out | apply IsS55.alloc | apply IsS55.drewN | apply IsS55.drew | apply IsS55.set_1 | apply IsS55.set_2 | refine IsS55.far ?_ NB0_109.out _ | refine IsS55.far ?_ NB0_110.out _) | exact HI0.out)⟩, ⟨by repeat (first | (with_reducible first | exact HK.out | apply KeepBut.set_ | apply keep_drewN | apply keep_drew | apply keep_alloc | refine keep_far ?_ GW109.out _ | refine keep_far ?_ GW110.out _) | exact HK.out)⟩, ⟨by repeat (first | (with_reducible first | exact HB.out | apply below_alloc | apply pw_below_drewN | apply below_drew1 | refine below_set ?_ (IsS55.ge HI0.out) | refine below_set ?_ GE109.out | refine below_set ?_ GE110.out) | exact HB.out)⟩⟩
   replace H := ie_ H
   rcases H with ⟨c69b0, c69b1, H⟩ | ⟨c69, c69b0, c69b1, H⟩
   ·replace H := oc_ H
    obtain ⟨⟨t139, t140, t141⟩, A70, H⟩ := H
    replace H := oc_ H
    obtain ⟨⟨t142, t143, t144⟩, A71, H⟩ := H
    replace H := oc_ H
    obtain ⟨⟨t145, t146, t147⟩, A72, H⟩ := H
    replace H := oc_ H
    obtain ⟨⟨t148, t149, t150⟩, A73, H⟩ := H
    have H' := Aside0.mk H
    clear H
    go_wp2_with (first | ((refine gc_ 36 ?_); refine ge_ 59 Try.func36 #[.pointer (some ⟨g, 0, none⟩), .int .i64 2001] ?_; (with_reducible refine (spec_l01Next.calls g s0_0 t116 t117 2001 t139 t140 t141 w0 _ ?side1 ?side2 A70.out).mono ?_); (case side1 => repeat (first | (with_reducible first | exact HI0.out | apply IsS55.alloc | apply IsS55.drewN | apply IsS55.drew | apply IsS55.set_1 | apply IsS55.set_2 | refine IsS55.far ?_ NB0_109.out _ | refine IsS55.far ?_ NB0_110.out _) | exact HI0.out)); (case side2 => repeat (first | (with_reducible first | exact HB.out | apply below_alloc | apply pw_below_drewN | apply below_drew1 | refine below_set ?_ (IsS55.ge HI0.out) | refine below_set ?_ GE109.out | refine below_set ?_ GE110.out) | exact HB.out)); rintro e w74 ⟨rfl, hi, hb, hk⟩; refine ⟨_, rfl, ?_⟩; replace BK109 := Aside0.mk (KeepBut.blk hk (g' := gb109) (o := .cells #[.int .i64 0, .int .i64 0, .int .i64 0, .int .i64 0] 26 (0, 0)) (bl_ BK109).out NB109_0.out (by simp)); replace BK110 := Aside0.mk (KeepBut.blk hk (g' := gb110) (o := .cells #[.int .i64 x111000_1, .int .i64 x111001_1, .int .i64 x111002_1, .int .i64 x111003_1] 26 (0, 0)) (bl_ BK110).out NB110_0.out (by simp)); replace HK := Aside0.mk (KeepBut.trans (by repeat (first | (with_reducible first | exact HK.out | apply KeepBut.set_ | apply keep_drewN | apply keep_drew | apply keep_alloc | refine keep_far ?_ GW109.out _ | refine keep_far ?_ GW110.out _) | exact HK.out)) hk (.inl rfl)); replace HB := Aside0.mk (hb); replace HI0 := Aside0.mk (hi); (try clear hb); (try clear hk); (try clear hi)) | ((refine gc_ 36 ?_); refine ge_ 62 Try.func36 #[.pointer (some ⟨g, 0, none⟩), .int .i64 9] ?_; (with_reducible refine (spec_l01Next.calls g s0_0 t140 t141 9 t142 t143 t144 w0 _ ?side1 ?side2 A71.out).mono ?_); (case side1 => repeat (first | (with_reducible first | exact HI0.out | apply IsS55.alloc | apply IsS55.drewN | apply IsS55.drew | apply IsS55.set_1 | apply IsS55.set_2 | refine IsS55.far ?_ NB0_109.out _ | refine IsS55.far ?_ NB0_110.out _) | exact HI0.out)); (case side2 => repeat (first | (with_reducible first | exact HB.out | apply below_alloc | apply pw_below_drewN | apply below_drew1 | refine below_set ?_ (IsS55.ge HI0.out) | refine below_set ?_ GE109.out | refine below_set ?_ GE110.out) | exact HB.out)); rintro e w75 ⟨rfl, hi, hb, hk⟩; refine ⟨_, rfl, ?_⟩; replace BK109 := Aside0.mk (KeepBut.blk hk (g' := gb109) (o := .cells #[.int .i64 0, .int .i64 0, .int .i64 0, .int .i64 0] 26 (0, 0)) (bl_ BK109).out NB109_0.out (by simp)); replace BK110 := Aside0.mk (KeepBut.blk hk (g' := gb110) (o := .cells #[.int .i64 x111000_1, .int .i64 x111001_1, .int .i64 x111002_1, .int .i64 x111003_1] 26 (0, 0)) (bl_ BK110).out NB110_0.out (by simp)); replace HK := Aside0.mk (KeepBut.trans (by repeat (first | (with_reducible first | exact HK.out | apply KeepBut.set_ | apply keep_drewN | apply keep_drew | apply keep_alloc | refine keep_far ?_ GW109.out _ | refine keep_far ?_ GW110.out _) | exact HK.out)) hk (.inl rfl)); replace HB := Aside0.mk (hb); replace HI0 := Aside0.mk (hi); (try clear hb); (try clear hk); (try clear hi)) | ((refine gc_ 36 ?_); refine ge_ 65 Try.func36 #[.pointer (some ⟨g, 0, none⟩), .int .i64 9] ?_; (with_reducible refine (spec_l01Next.calls g s0_0 t143 t144 9 t145 t146 t147 w0 _ ?side1 ?side2 A72.out).mono ?_); (case side1 => repeat (first | (with_reducible first | exact HI0.out | apply IsS55.alloc | apply IsS55.drewN | apply IsS55.drew | apply IsS55.set_1 | apply IsS55.set_2 | refine IsS55.far ?_ NB0_109.out _ | refine IsS55.far ?_ NB0_110.out _) | exact HI0.out)); (case side2 => repeat (first | (with_reducible first | exact HB.out | apply below_alloc | apply pw_below_drewN | apply below_drew1 | refine below_set ?_ (IsS55.ge HI0.out) | refine below_set ?_ GE109.out | refine below_set ?_ GE110.out) | exact HB.out)); rintro e w76 ⟨rfl, hi, hb, hk⟩; refine ⟨_, rfl, ?_⟩; replace BK109 := Aside0.mk (KeepBut.blk hk (g' := gb109) (o := .cells #[.int .i64 0, .int .i64 0, .int .i64 0, .int .i64 0] 26 (0, 0)) (bl_ BK109).out NB109_0.out (by simp)); replace BK110 := Aside0.mk (KeepBut.blk hk (g' := gb110) (o := .cells #[.int .i64 x111000_1, .int .i64 x111001_1, .int .i64 x111002_1, .int .i64 x111003_1] 26 (0, 0)) (bl_ BK110).out NB110_0.out (by simp)); replace HK := Aside0.mk (KeepBut.trans (by repeat (first | (with_reducible first | exact HK.out | apply KeepBut.set_ | apply keep_drewN | apply keep_drew | apply keep_alloc | refine keep_far ?_ GW109.out _ | refine keep_far ?_ GW110.out _) | exact HK.out)) hk (.inl rfl)); replace HB := Aside0.mk (hb); replace HI0 := Aside0.mk (hi); (try clear hb); (try clear hk); (try clear hi)) | ((refine gc_ 36 ?_); refine ge_ 67 Try.func36 #[.pointer (some ⟨g, 0, none⟩), .int .i64 2001] ?_; (with_reducible refine (spec_l01Next.calls g s0_0 t146 t147 2001 t148 t149 t150 w0 _ ?side1 ?side2 A73.out).mono ?_); (case side1 => repeat (first | (with_reducible first | exact HI0.out | apply IsS55.alloc | apply IsS55.drewN | apply IsS55.drew | apply IsS55.set_1 | apply IsS55.set_2 | refine IsS55.far ?_ NB0_109.out _ | refine IsS55.far ?_ NB0_110.out _) | exact HI0.out)); (case side2 => repeat (first | (with_reducible first | exact HB.out | apply below_alloc | apply pw_below_drewN | apply below_drew1 | refine below_set ?_ (IsS55.ge HI0.out) | refine below_set ?_ GE109.out | refine below_set ?_ GE110.out) | exact HB.out)); rintro e w77 ⟨rfl, hi, hb, hk⟩; refine ⟨_, rfl, ?_⟩; replace BK109 := Aside0.mk (KeepBut.blk hk (g' := gb109) (o := .cells #[.int .i64 0, .int .i64 0, .int .i64 0, .int .i64 0] 26 (0, 0)) (bl_ BK109).out NB109_0.out (by simp)); replace BK110 := Aside0.mk (KeepBut.blk hk (g' := gb110) (o := .cells #[.int .i64 x111000_1, .int .i64 x111001_1, .int .i64 x111002_1, .int .i64 x111003_1] 26 (0, 0)) (bl_ BK110).out NB110_0.out (by simp)); replace HK := Aside0.mk (KeepBut.trans (by repeat (first | (with_reducible first | exact HK.out | apply KeepBut.set_ | apply keep_drewN | apply keep_drew | apply keep_alloc | refine keep_far ?_ GW109.out _ | refine keep_far ?_ GW110.out _) | exact HK.out)) hk (.inl rfl)); replace HB := Aside0.mk (hb); replace HI0 := Aside0.mk (hi); (try clear hb); (try clear hk); (try clear hi); have hnb78 := NB110_109.out; have hnc78 := NB109_110.out; have hnb79 := NB110_0.out; have hnc79 := NB0_110.out; obtain ⟨hcz80_0, hcz80_1, hcz80_2, hcz80_3, hfz80_0, hfz80_1, hfz80_2, hfz80_3⟩ := ch4_ BK110))
    go_meet
    case rel => exact ⟨_, (t149), (t150), (wrap64 (t139 - 1000)), (t142), (t145), (wrap64 (t148 - 1000)), H', ⟨by have := HJ1.out; first | omega | exact Nat.le_refl _⟩, fl_ BK109 NB109_110, bp_ BK110, ⟨by repeat (first | (with_reducible first | exact HI0.out | apply IsS55.alloc | apply IsS55.drewN | apply IsS55.drew | apply IsS55.set_1 | apply IsS55.set_2 | refine IsS55.far ?_ NB0_109.out _ | refine IsS55.far ?_ NB0_110.out _) | exact HI0.out)⟩, ⟨by repeat (first | (with_reducible first | exact HK.out | apply KeepBut.set_ | apply keep_drewN | apply keep_drew | apply keep_alloc | refine keep_far ?_ GW109.out _ | refine keep_far ?_ GW110.out _) | exact HK.out)⟩, ⟨by repeat (first | (with_reducible first | exact HB.out | apply below_alloc | apply pw_below_drewN | apply below_drew1 | refine below_set ?_ (IsS55.ge HI0.out) | refine below_set ?_ GE109.out | refine below_set ?_ GE110.out) | exact HB.out)⟩⟩
   replace H := ie_ H
   rcases H with ⟨c81b0, c81b1, H⟩ | ⟨c81, c81b0, c81b1, H⟩
   ·replace H := oc_ H
    obtain ⟨⟨t151, t152, t153⟩, A82, H⟩ := H
    have H' := Aside0.mk H
    clear H
    go_wp2_with (first | ((refine gc_ 36 ?_); refine ge_ 74 Try.func36 #[.pointer (some ⟨g, 0, none⟩), .int .i64 7] ?_; (with_reducible refine (spec_l01Next.calls g s0_0 t116 t117 7 t151 t152 t153 w0 _ ?side1 ?side2 A82.out).mono ?_); (case side1 => repeat (first | (with_reducible first | exact HI0.out | apply IsS55.alloc | apply IsS55.drewN | apply IsS55.drew | apply IsS55.set_1 | apply IsS55.set_2 | refine IsS55.far ?_ NB0_109.out _ | refine IsS55.far ?_ NB0_110.out _) | exact HI0.out)); (case side2 => repeat (first | (with_reducible first | exact HB.out | apply below_alloc | apply pw_below_drewN | apply below_drew1 | refine below_set ?_ (IsS55.ge HI0.out) | refine below_set ?_ GE109.out | refine below_set ?_ GE110.out) | exact HB.out)); rintro e w83 ⟨rfl, hi, hb, hk⟩; refine ⟨_, rfl, ?_⟩; replace BK109 := Aside0.mk (KeepBut.blk hk (g' := gb109) (o := .cells #[.int .i64 0, .int .i64 0, .int .i64 0, .int .i64 0] 26 (0, 0)) (bl_ BK109).out NB109_0.out (by simp)); replace BK110 := Aside0.mk (KeepBut.blk hk (g' := gb110) (o := .cells #[.int .i64 x111000_1, .int .i64 x111001_1, .int .i64 x111002_1, .int .i64 x111003_1] 26 (0, 0)) (bl_ BK110).out NB110_0.out (by simp)); replace HK := Aside0.mk (KeepBut.trans (by repeat (first | (with_reducible first | exact HK.out | apply KeepBut.set_ | apply keep_drewN | apply keep_drew | apply keep_alloc | refine keep_far ?_ GW109.out _ | refine keep_far ?_ GW110.out _) | exact HK.out)) hk (.inl rfl)); replace HB := Aside0.mk (hb); replace HI0 := Aside0.mk (hi); (try clear hb); (try clear hk); (try clear hi); have hnb84 := NB110_109.out; have hnc84 := NB109_110.out; have hnb85 := NB110_0.out; have hnc85 := NB0_110.out; obtain ⟨hcz86_0, hcz86_1, hcz86_2, hcz86_3, hfz86_0, hfz86_1, hfz86_2, hfz86_3⟩ := ch4_ BK110))
    go_meet
    case rel => exact ⟨_, (t152), (t153), (1), (wrap64 (t151 - 3)), (0), (1), H', ⟨by have := HJ1.out; first | omega | exact Nat.le_refl _⟩, fl_ BK109 NB109_110, bp_ BK110, ⟨by repeat (first | (with_reducible first | exact HI0.out | apply IsS55.alloc | apply IsS55.drewN | apply IsS55.drew | apply IsS55.set_1 | apply IsS55.set_2 | refine IsS55.far ?_ NB0_109.out _ | refine IsS55.far ?_ NB0_110.out _) | exact HI0.out)⟩, ⟨by repeat (first | (with_reducible first | exact HK.out | apply KeepBut.set_ | apply keep_drewN | apply keep_drew | apply keep_alloc | refine keep_far ?_ GW109.out _ | refine keep_far ?_ GW110.out _) | exact HK.out)⟩, ⟨by repeat (first | (with_reducible first | exact HB.out | apply below_alloc | apply pw_below_drewN | apply below_drew1 | refine below_set ?_ (IsS55.ge HI0.out) | refine below_set ?_ GE109.out | refine below_set ?_ GE110.out) | exact HB.out)⟩⟩
   have H' := Aside0.mk H
   clear H
   go_wp2
   go_meet
   case rel => exact ⟨_, (t116), (t117), (x111000_1), (x111001_1), (x111002_1), (x111003_1), H', ⟨by have := HJ1.out; first | omega | exact Nat.le_refl _⟩, bl_ BK109, bl_ BK110, ⟨by repeat (first | (with_reducible first | exact HI0.out | apply IsS55.alloc | apply IsS55.drewN | apply IsS55.drew | apply IsS55.set_1 | apply IsS55.set_2 | refine IsS55.far ?_ NB0_109.out _ | refine IsS55.far ?_ NB0_110.out _) | exact HI0.out)⟩, ⟨by repeat (first | (with_reducible first | exact HK.out | apply KeepBut.set_ | apply keep_drewN | apply keep_drew | apply keep_alloc | refine keep_far ?_ GW109.out _ | refine keep_far ?_ GW110.out _) | exact HK.out)⟩, ⟨by repeat (first | (with_reducible first | exact HB.out | apply below_alloc | apply pw_below_drewN | apply below_drew1 | refine below_set ?_ (IsS55.ge HI0.out) | refine below_set ?_ GE109.out | refine below_set ?_ GE110.out) | exact HB.out)⟩⟩
  clear HC38
  try clear c8b0
  try clear c9b0
  try clear c11
  try clear c11b0
  try clear c11b1
  try clear c15
  try clear c15b0
  try clear c15b1
  try clear c19
  try clear c19b0
  try clear c19b1
  try clear c23
  try clear c28
  try clear c28b0
  try clear c28b1
  try clear c40
  try clear c40b0
  try clear c40b1
  try clear c51
  try clear c51b0
  try clear c51b1
  try clear c60
  try clear c60b0
  try clear c60b1
  try clear c69
  try clear c69b0
  try clear c69b1
  try clear c81
  try clear c81b0
  try clear c81b1
  try clear hcz31_0 hcz31_1 hcz31_2 hcz31_3
  try clear hcz35_0 hcz35_1 hcz35_2 hcz35_3
  try clear hcz50_0 hcz50_1 hcz50_2 hcz50_3
  try clear hcz59_0 hcz59_1 hcz59_2 hcz59_3
  try clear hcz68_0 hcz68_1 hcz68_2 hcz68_3
  try clear hcz80_0 hcz80_1 hcz80_2 hcz80_3
  try clear hcz86_0 hcz86_1 hcz86_2 hcz86_3
  try clear hfz31_0 hfz31_1 hfz31_2 hfz31_3
  try clear hfz35_0 hfz35_1 hfz35_2 hfz35_3
  try clear hfz50_0 hfz50_1 hfz50_2 hfz50_3
  try clear hfz59_0 hfz59_1 hfz59_2 hfz59_3
  try clear hfz68_0 hfz68_1 hfz68_2 hfz68_3
  try clear hfz80_0 hfz80_1 hfz80_2 hfz80_3
  try clear hfz86_0 hfz86_1 hfz86_2 hfz86_3
  obtain ⟨kq, x1001_37, x1002_37, x111000_37, x111001_37, x111002_37, x111003_37, HA, HJ37, BK109, BK110, HI0, HK, HB⟩ := hcut
  cases kq with
  | zero => exact absurd HA.out (by simp [spec_l04Draw.j3])
  | succ kj37 =>
   have H := HA.out
   clear HA
   simp only [spec_l04Draw.j3] at H
   replace H := oc_ H
   obtain ⟨⟨t154, t155, t156⟩, A87, H⟩ := H
   replace H := ie_ H
   rcases H with ⟨c88b0, c88b1, H⟩ | ⟨c88, c88b0, c88b1, H⟩
   ·simp only [Option.some.injEq, Prod.mk.injEq] at H
    obtain ⟨rfl, rfl, rfl, rfl, rfl, rfl⟩ := H
    go_wp2_with (first | ((refine gc_ 36 ?_); refine ge_ 80 Try.func36 #[.pointer (some ⟨g, 0, none⟩), .int .i64 40] ?_; (with_reducible refine (spec_l01Next.calls g s0_0 x1001_37 x1002_37 40 t154 t155 t156 w0 _ ?side1 ?side2 A87.out).mono ?_); (case side1 => repeat (first | (with_reducible first | exact HI0.out | apply IsS55.alloc | apply IsS55.drewN | apply IsS55.drew | apply IsS55.set_1 | apply IsS55.set_2 | refine IsS55.far ?_ NB0_109.out _ | refine IsS55.far ?_ NB0_110.out _) | exact HI0.out)); (case side2 => repeat (first | (with_reducible first | exact HB.out | apply below_alloc | apply pw_below_drewN | apply below_drew1 | refine below_set ?_ (IsS55.ge HI0.out) | refine below_set ?_ GE109.out | refine below_set ?_ GE110.out) | exact HB.out)); rintro e w89 ⟨rfl, hi, hb, hk⟩; refine ⟨_, rfl, ?_⟩; replace BK109 := Aside0.mk (KeepBut.blk hk (g' := gb109) (o := .cells #[.int .i64 0, .int .i64 0, .int .i64 0, .int .i64 0] 26 (0, 0)) (bl_ BK109).out NB109_0.out (by simp)); replace BK110 := Aside0.mk (KeepBut.blk hk (g' := gb110) (o := .cells #[.int .i64 x111000_37, .int .i64 x111001_37, .int .i64 x111002_37, .int .i64 x111003_37] 26 (0, 0)) (bl_ BK110).out NB110_0.out (by simp)); replace HK := Aside0.mk (KeepBut.trans (by repeat (first | (with_reducible first | exact HK.out | apply KeepBut.set_ | apply keep_drewN | apply keep_drew | apply keep_alloc | refine keep_far ?_ GW109.out _ | refine keep_far ?_ GW110.out _) | exact HK.out)) hk (.inl rfl)); replace HB := Aside0.mk (hb); replace HI0 := Aside0.mk (hi); (try clear hb); (try clear hk); (try clear hi); have hnb90 := NB110_109.out; have hnc90 := NB109_110.out; have hnb91 := NB110_0.out; have hnc91 := NB0_110.out; obtain ⟨hcz92_0, hcz92_1, hcz92_2, hcz92_3, hfz92_0, hfz92_1, hfz92_2, hfz92_3⟩ := ch4_ BK110; have hnb93 := NB109_0.out; have hnc93 := NB0_109.out; obtain ⟨hcz94_0, hcz94_1, hcz94_2, hcz94_3, hfz94_0, hfz94_1, hfz94_2, hfz94_3⟩ := ch4_ BK109))
    refine bodyPost_ret (results_cell_row rfl _ _ gb109 26 #[.int .i64 1001, .int .i64 x111001_37, .int .i64 x111002_37, .int .i64 x111003_37] (0, 0) _ rfl (bp_ BK109).out Try.underlying26 rfl (by kernel_rfl)) rfl ?_
    exact ⟨es_, by repeat (first | (with_reducible first | exact HI0.out | apply IsS55.alloc | apply IsS55.drewN | apply IsS55.drew | apply IsS55.set_1 | apply IsS55.set_2 | refine IsS55.far ?_ NB0_109.out _ | refine IsS55.far ?_ NB0_110.out _) | exact HI0.out), by repeat (first | (with_reducible first | exact HB.out | apply below_alloc | apply pw_below_drewN | apply below_drew1 | refine below_set ?_ (IsS55.ge HI0.out) | refine below_set ?_ GE109.out | refine below_set ?_ GE110.out) | exact HB.out), by repeat (first | (with_reducible first | exact HK.out | apply KeepBut.set_ | apply keep_drewN | apply keep_drew | apply keep_alloc | refine keep_far ?_ GW109.out _ | refine keep_far ?_ GW110.out _) | exact HK.out)⟩
   replace H := ie_ H
   rcases H with ⟨c95b0, c95b1, H⟩ | ⟨c95, c95b0, c95b1, H⟩
   ·simp only [Option.some.injEq, Prod.mk.injEq] at H
    obtain ⟨rfl, rfl, rfl, rfl, rfl, rfl⟩ := H
    go_wp2_with (first | ((refine gc_ 36 ?_); refine ge_ 80 Try.func36 #[.pointer (some ⟨g, 0, none⟩), .int .i64 40] ?_; (with_reducible refine (spec_l01Next.calls g s0_0 x1001_37 x1002_37 40 t154 t155 t156 w0 _ ?side1 ?side2 A87.out).mono ?_); (case side1 => repeat (first | (with_reducible first | exact HI0.out | apply IsS55.alloc | apply IsS55.drewN | apply IsS55.drew | apply IsS55.set_1 | apply IsS55.set_2 | refine IsS55.far ?_ NB0_109.out _ | refine IsS55.far ?_ NB0_110.out _) | exact HI0.out)); (case side2 => repeat (first | (with_reducible first | exact HB.out | apply below_alloc | apply pw_below_drewN | apply below_drew1 | refine below_set ?_ (IsS55.ge HI0.out) | refine below_set ?_ GE109.out | refine below_set ?_ GE110.out) | exact HB.out)); rintro e w96 ⟨rfl, hi, hb, hk⟩; refine ⟨_, rfl, ?_⟩; replace BK109 := Aside0.mk (KeepBut.blk hk (g' := gb109) (o := .cells #[.int .i64 0, .int .i64 0, .int .i64 0, .int .i64 0] 26 (0, 0)) (bl_ BK109).out NB109_0.out (by simp)); replace BK110 := Aside0.mk (KeepBut.blk hk (g' := gb110) (o := .cells #[.int .i64 x111000_37, .int .i64 x111001_37, .int .i64 x111002_37, .int .i64 x111003_37] 26 (0, 0)) (bl_ BK110).out NB110_0.out (by simp)); replace HK := Aside0.mk (KeepBut.trans (by repeat (first | (with_reducible first | exact HK.out | apply KeepBut.set_ | apply keep_drewN | apply keep_drew | apply keep_alloc | refine keep_far ?_ GW109.out _ | refine keep_far ?_ GW110.out _) | exact HK.out)) hk (.inl rfl)); replace HB := Aside0.mk (hb); replace HI0 := Aside0.mk (hi); (try clear hb); (try clear hk); (try clear hi); have hnb97 := NB110_109.out; have hnc97 := NB109_110.out; have hnb98 := NB110_0.out; have hnc98 := NB0_110.out; obtain ⟨hcz99_0, hcz99_1, hcz99_2, hcz99_3, hfz99_0, hfz99_1, hfz99_2, hfz99_3⟩ := ch4_ BK110; have hnb100 := NB109_0.out; have hnc100 := NB0_109.out; obtain ⟨hcz101_0, hcz101_1, hcz101_2, hcz101_3, hfz101_0, hfz101_1, hfz101_2, hfz101_3⟩ := ch4_ BK109))
    refine bodyPost_ret (results_cell_row rfl _ _ gb109 26 #[.int .i64 x111000_37, .int .i64 x111001_37, .int .i64 x111000_37, .int .i64 x111001_37] (0, 0) _ rfl (bp_ BK109).out Try.underlying26 rfl (by kernel_rfl)) rfl ?_
    exact ⟨es_, by repeat (first | (with_reducible first | exact HI0.out | apply IsS55.alloc | apply IsS55.drewN | apply IsS55.drew | apply IsS55.set_1 | apply IsS55.set_2 | refine IsS55.far ?_ NB0_109.out _ | refine IsS55.far ?_ NB0_110.out _) | exact HI0.out), by repeat (first | (with_reducible first | exact HB.out | apply below_alloc | apply pw_below_drewN | apply below_drew1 | refine below_set ?_ (IsS55.ge HI0.out) | refine below_set ?_ GE109.out | refine below_set ?_ GE110.out) | exact HB.out), by repeat (first | (with_reducible first | exact HK.out | apply KeepBut.set_ | apply keep_drewN | apply keep_drew | apply keep_alloc | refine keep_far ?_ GW109.out _ | refine keep_far ?_ GW110.out _) | exact HK.out)⟩
   simp only [Option.some.injEq, Prod.mk.injEq] at H
   obtain ⟨rfl, rfl, rfl, rfl, rfl, rfl⟩ := H
   go_wp2_with (first | ((refine gc_ 36 ?_); refine ge_ 80 Try.func36 #[.pointer (some ⟨g, 0, none⟩), .int .i64 40] ?_; (with_reducible refine (spec_l01Next.calls g s0_0 x1001_37 x1002_37 40 t154 t155 t156 w0 _ ?side1 ?side2 A87.out).mono ?_); (case side1 => repeat (first | (with_reducible first | exact HI0.out | apply IsS55.alloc | apply IsS55.drewN | apply IsS55.drew | apply IsS55.set_1 | apply IsS55.set_2 | refine IsS55.far ?_ NB0_109.out _ | refine IsS55.far ?_ NB0_110.out _) | exact HI0.out)); (case side2 => repeat (first | (with_reducible first | exact HB.out | apply below_alloc | apply pw_below_drewN | apply below_drew1 | refine below_set ?_ (IsS55.ge HI0.out) | refine below_set ?_ GE109.out | refine below_set ?_ GE110.out) | exact HB.out)); rintro e w102 ⟨rfl, hi, hb, hk⟩; refine ⟨_, rfl, ?_⟩; replace BK109 := Aside0.mk (KeepBut.blk hk (g' := gb109) (o := .cells #[.int .i64 0, .int .i64 0, .int .i64 0, .int .i64 0] 26 (0, 0)) (bl_ BK109).out NB109_0.out (by simp)); replace BK110 := Aside0.mk (KeepBut.blk hk (g' := gb110) (o := .cells #[.int .i64 x111000_37, .int .i64 x111001_37, .int .i64 x111002_37, .int .i64 x111003_37] 26 (0, 0)) (bl_ BK110).out NB110_0.out (by simp)); replace HK := Aside0.mk (KeepBut.trans (by repeat (first | (with_reducible first | exact HK.out | apply KeepBut.set_ | apply keep_drewN | apply keep_drew | apply keep_alloc | refine keep_far ?_ GW109.out _ | refine keep_far ?_ GW110.out _) | exact HK.out)) hk (.inl rfl)); replace HB := Aside0.mk (hb); replace HI0 := Aside0.mk (hi); (try clear hb); (try clear hk); (try clear hi); have hnb103 := NB110_109.out; have hnc103 := NB109_110.out; have hnb104 := NB110_0.out; have hnc104 := NB0_110.out; obtain ⟨hcz105_0, hcz105_1, hcz105_2, hcz105_3, hfz105_0, hfz105_1, hfz105_2, hfz105_3⟩ := ch4_ BK110; have hnb106 := NB109_0.out; have hnc106 := NB0_109.out; obtain ⟨hcz107_0, hcz107_1, hcz107_2, hcz107_3, hfz107_0, hfz107_1, hfz107_2, hfz107_3⟩ := ch4_ BK109))
   refine bodyPost_ret (results_cell_row rfl _ _ gb109 26 #[.int .i64 x111000_37, .int .i64 x111001_37, .int .i64 x111002_37, .int .i64 x111003_37] (0, 0) _ rfl (bp_ BK109).out Try.underlying26 rfl (by kernel_rfl)) rfl ?_
   exact ⟨es_, by repeat (first | (with_reducible first | exact HI0.out | apply IsS55.alloc | apply IsS55.drewN | apply IsS55.drew | apply IsS55.set_1 | apply IsS55.set_2 | refine IsS55.far ?_ NB0_109.out _ | refine IsS55.far ?_ NB0_110.out _) | exact HI0.out), by repeat (first | (with_reducible first | exact HB.out | apply below_alloc | apply pw_below_drewN | apply below_drew1 | refine below_set ?_ (IsS55.ge HI0.out) | refine below_set ?_ GE109.out | refine below_set ?_ GE110.out) | exact HB.out), by repeat (first | (with_reducible first | exact HK.out | apply KeepBut.set_ | apply keep_drewN | apply keep_drew | apply keep_alloc | refine keep_far ?_ GW109.out _ | refine keep_far ?_ GW110.out _) | exact HK.out)⟩
end Go.Proofs.Yteniblbnmcfmjaa.QM
